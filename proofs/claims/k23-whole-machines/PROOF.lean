import PyProof.Rows.All
import Wide.All
import OpenK.AllK
import Wide.FinOn
import HandS.ForMost
import HandS.Star
import HandS.Flow
import HandS.Zip
import HandS.Rev
import HandS.Deep
import HandS.IsInst
import HandS.Walk
import KE.KDictKeyed
import KE.KDictPairs
import KE.DataMinMax
import HandS.TupSets
import KE.SortData
import HandS.SetFor
import HandS.Strs
import HandS.Defaults
import PySem.Challenge.RW_someobjects_k23_whole_machines_asked_in
import HandS.Head0
import HandS.Head1
import HandS.Head2
import HandS.HeadEnd
import HandS.HeadHook1
import HandS.HeadHook2
import HandS.Base
import HandS.Call
import HandS.Ends
import HandS.More
import HandS.Words
import HandS.WordsExc
import KE.KStateDown
set_option Elab.async false
set_option linter.all false
set_option maxRecDepth 100000
set_option maxHeartbeats 8000000
/-! part Oa -/
/-! Data of the program as trees (Dt), what stands in the heap for them (Dat), cells that may still change (Mu). -/
namespace Ob
open PySem L2

/-- a datum: what a value stands for -/
inductive Dt where
  | non
  | bl (b : Bool)
  | int (i : Int)
  | str (x : Str)
  | lst (xs : List Dt)
  | tup (xs : List Dt)
  | ins (c : Nat) (fs : List (Nat × Dt))
  | keys (ms : List (Int × List Int × Int))
  | adr (p : Addr)
  | scr (ns : List Int)

/-- what a cell holds -/
inductive Cell where
  | lst (xs : List Dt)
  | ins (c : Nat) (fs : List (Nat × Dt))

abbrev Mu := List (Addr × Cell)
abbrev Dl := List (Option Dt)

def adrs (m : Mu) : List Addr := m.map (·.1)
def put : Mu → Addr → Cell → Mu
  | [], _, _ => []
  | (q, d) :: m, p, c => if q = p then (p, c) :: m else (q, d) :: put m p c
def del : Mu → Addr → Mu
  | [], _ => []
  | (q, d) :: m, p => if q = p then m else (q, d) :: del m p
def get : Mu → Addr → Option Cell
  | [], _ => none
  | (q, d) :: m, p => if q = p then some d else get m p

theorem get_mem : ∀ {m : Mu} {p : Addr} {c : Cell}, get m p = some c → (p, c) ∈ m
  | (q, d) :: m, p, c, h => by
    unfold get at h
    split at h
    · rename_i e
      cases h
      rw [← e]
      exact List.mem_cons_self
    · exact List.mem_cons_of_mem _ (get_mem h)
theorem mem_adrs {m : Mu} {p : Addr} {c : Cell} (h : (p, c) ∈ m) : p ∈ adrs m := List.mem_map.mpr ⟨_, h, rfl⟩
theorem get_of_mem : ∀ {m : Mu} {p : Addr} {c : Cell}, (adrs m).Nodup → (p, c) ∈ m → get m p = some c
  | (q, d) :: m, p, c, nd, h => by
    unfold get
    obtain ⟨n1, n2⟩ := List.nodup_cons.mp (show (q :: adrs m).Nodup from nd)
    rcases List.mem_cons.mp h with e | h
    · cases e
      rw [if_pos rfl]
    · have ne : q ≠ p := fun e => n1 (by rw [e]; exact mem_adrs h)
      rw [if_neg ne]
      exact get_of_mem n2 h
theorem adrs_put : ∀ (m : Mu) (p : Addr) (c : Cell), adrs (put m p c) = adrs m
  | [], _, _ => rfl
  | (q, d) :: m, p, c => by
    unfold put
    split
    · rename_i e
      show p :: adrs m = q :: adrs m
      rw [e]
    · show q :: adrs (put m p c) = q :: adrs m
      rw [adrs_put m p c]
theorem mem_put : ∀ {m : Mu} {p q : Addr} {c d : Cell}, (adrs m).Nodup → (q, d) ∈ put m p c → (q = p ∧ d = c) ∨ (q ≠ p ∧ (q, d) ∈ m)
  | (r, e) :: m, p, q, c, d, nd, h => by
    obtain ⟨n1, n2⟩ := List.nodup_cons.mp (show (r :: adrs m).Nodup from nd)
    unfold put at h
    split at h
    · rename_i er
      rcases List.mem_cons.mp h with e2 | h
      · cases e2
        exact .inl ⟨rfl, rfl⟩
      · exact .inr ⟨fun z => n1 (by rw [er, ← z]; exact mem_adrs h), List.mem_cons_of_mem _ h⟩
    · rename_i er
      rcases List.mem_cons.mp h with e2 | h
      · cases e2
        exact .inr ⟨er, List.mem_cons_self⟩
      · rcases mem_put n2 h with z | ⟨z1, z2⟩
        · exact .inl z
        · exact .inr ⟨z1, List.mem_cons_of_mem _ z2⟩
theorem mem_del : ∀ {m : Mu} {p q : Addr} {d : Cell}, (adrs m).Nodup → (q, d) ∈ del m p → q ≠ p ∧ (q, d) ∈ m
  | (r, e) :: m, p, q, d, nd, h => by
    obtain ⟨n1, n2⟩ := List.nodup_cons.mp (show (r :: adrs m).Nodup from nd)
    unfold del at h
    split at h
    · rename_i er
      exact ⟨fun z => n1 (by rw [er, ← z]; exact mem_adrs h), List.mem_cons_of_mem _ h⟩
    · rename_i er
      rcases List.mem_cons.mp h with e2 | h
      · cases e2
        exact ⟨er, List.mem_cons_self⟩
      · obtain ⟨z1, z2⟩ := mem_del n2 h
        exact ⟨z1, List.mem_cons_of_mem _ z2⟩
theorem adrs_del_sub : ∀ {m : Mu} {p q : Addr}, q ∈ adrs (del m p) → q ∈ adrs m
  | (r, e) :: m, p, q, h => by
    unfold del at h
    split at h
    · exact List.mem_cons_of_mem _ h
    · rcases List.mem_cons.mp (show q ∈ r :: adrs (del m p) from h) with e2 | h
      · rw [e2]
        exact List.mem_cons_self
      · exact List.mem_cons_of_mem _ (adrs_del_sub h)
theorem adrs_del_nd : ∀ {m : Mu} {p : Addr}, (adrs m).Nodup → (adrs (del m p)).Nodup
  | [], _, _ => List.nodup_nil
  | (r, e) :: m, p, nd => by
    obtain ⟨n1, n2⟩ := List.nodup_cons.mp (show (r :: adrs m).Nodup from nd)
    unfold del
    split
    · exact n2
    · show (r :: adrs (del m p)).Nodup
      exact List.nodup_cons.mpr ⟨fun z => n1 (adrs_del_sub z), adrs_del_nd n2⟩

/-- the attributes by number -/
def atn : Nat → Str
  | 0 => "letters" | 1 => "labels" | 2 => "moves" | 3 => "ends" | 4 => "kind" | 5 => "cost" | 6 => "numbers"
  | 7 => "machine" | 8 => "prices" | 9 => "fine" | _ => "ring"

/-- what the whole development stands over -/
structure Wd where
  P : Program
  w : World
  K : PySem.W.Frag
  mg : Str → Option Value
  base : Heap
  cl : Nat → Addr

/-- a move: letter, labels of the children, own label -/
abbrev Mv := Int × List Int × Int
def mvD (m : Mv) : Dt := .tup [.int m.1, .tup (m.2.1.map .int), .int m.2.2]
def mvK (m : Mv) : NestedKey := .tup [.num m.1, .tup (m.2.1.map .num), .num m.2.2]
/-- the tuple at q is the move m -/
def MvAt (G : Hp) (q : Addr) (m : Mv) : Prop := ∃ c : Addr, G q = some (.tup [.int m.1, .ref c, .int m.2.2]) ∧ G c = some (.tup (m.2.1.map V.int)) ∧ m.2.1.length ≤ sizeLine
abbrev Ent := Mv × Addr × Value
/-- the dict at a with such entries, said of its one object -/
def KeyP (W : Wd) (a : Addr) (xs : List Ent) (h : Heap) : Prop := (a == sysModules) = false ∧ ∃ o es ep, h.get? a = some o ∧ o.ExactDict ∧ o.data = .dict es ep ∧
  es.toList = (xs.map fun x => (mvK x.1, x.2)).map (entryOfKey (nestedKind W.P W.w)) ∧ (xs.map (·.1)).Nodup
def KeyO (W : Wd) (a : Addr) (xs : List Ent) : HO := .ext (KeyP W a xs)

mutual
/-- v stands for the datum in the part G of the heap that does not change any more -/
inductive Dat (W : Wd) (G : Hp) : V → Dt → Prop where
  | non : Dat W G .non .non
  | bl (b : Bool) : Dat W G (.bl b) (.bl b)
  | int (i : Int) : Dat W G (.int i) (.int i)
  | str (x : Str) : Dat W G (.str x) (.str x)
  | lst {a : Addr} {vs : List V} {ds : List Dt} (h : G a = some (.lst vs)) (n : vs.length ≤ sizeLine) (r : DatL W G vs ds) : Dat W G (.ref a) (.lst ds)
  | tup {a : Addr} {vs : List V} {ds : List Dt} (h : G a = some (.tup vs)) (n : vs.length ≤ sizeLine) (r : DatL W G vs ds) : Dat W G (.ref a) (.tup ds)
  | ins {a dx : Addr} {c : Nat} {vs : List (Str × V)} {fs : List (Nat × Dt)} (l : c < 4) (h : G a = some (.ins (W.cl c) dx vs)) (r : DatF W G vs fs) : Dat W G (.ref a) (.ins c fs)
  | keys {a : Addr} {xs : List Ent} {ms : List Mv} (h : G a = some (KeyO W a xs)) (k : xs.map (·.1) = ms) (r : ∀ x ∈ xs, MvAt G x.2.1 x.1) : Dat W G (.ref a) (.keys ms)
  | adr (p : Addr) : Dat W G (.ref p) (.adr p)
  | scr {a : Addr} {ns : List Int} (h : SqL W.K G a (ns.map V.int)) (n : ns.length ≤ sizeLine) : Dat W G (.ref a) (.scr ns)
inductive DatL (W : Wd) (G : Hp) : List V → List Dt → Prop where
  | nil : DatL W G [] []
  | cons {v : V} {d : Dt} {vs : List V} {ds : List Dt} (h : Dat W G v d) (r : DatL W G vs ds) : DatL W G (v :: vs) (d :: ds)
inductive DatF (W : Wd) (G : Hp) : List (Str × V) → List (Nat × Dt) → Prop where
  | nil : DatF W G [] []
  | cons {v : V} {i : Nat} {d : Dt} {vs : List (Str × V)} {ds : List (Nat × Dt)} (l : i < 11) (h : Dat W G v d) (r : DatF W G vs ds) : DatF W G ((atn i, v) :: vs) ((i, d) :: ds)
end

section
variable {W : Wd} {G G' H H' : Hp}
theorem MvAt.mono (s : Same G G') {q : Addr} {m : Mv} (h : MvAt G q m) : MvAt G' q m := by
  obtain ⟨c, h1, h2, h3⟩ := h
  exact ⟨c, s _ _ h1, s _ _ h2, h3⟩
mutual
theorem Dat.mono (s : Same G G') : ∀ {v : V} {d : Dt}, Dat W G v d → Dat W G' v d
  | _, _, .non => .non
  | _, _, .bl b => .bl b
  | _, _, .int i => .int i
  | _, _, .str x => .str x
  | _, _, .lst h n r => .lst (s _ _ h) n (r.mono s)
  | _, _, .tup h n r => .tup (s _ _ h) n (r.mono s)
  | _, _, .ins l h r => .ins l (s _ _ h) (r.mono s)
  | _, _, .keys h k r => .keys (s _ _ h) k fun x hx => (r x hx).mono s
  | _, _, .adr p => .adr p
  | _, _, .scr h n => .scr (s.seq h) n
theorem DatL.mono (s : Same G G') : ∀ {vs : List V} {ds : List Dt}, DatL W G vs ds → DatL W G' vs ds
  | _, _, .nil => .nil
  | _, _, .cons h r => .cons (h.mono s) (r.mono s)
theorem DatF.mono (s : Same G G') : ∀ {vs : List (Str × V)} {ds : List (Nat × Dt)}, DatF W G vs ds → DatF W G' vs ds
  | _, _, .nil => .nil
  | _, _, .cons l h r => .cons l (h.mono s) (r.mono s)
end

/-! ### lists of data -/
theorem DatL.length : ∀ {vs : List V} {ds : List Dt}, DatL W G vs ds → vs.length = ds.length
  | _, _, .nil => rfl
  | _, _, .cons _ r => congrArg (· + 1) r.length
theorem DatL.append : ∀ {vs ws : List V} {ds es : List Dt}, DatL W G vs ds → DatL W G ws es → DatL W G (vs ++ ws) (ds ++ es)
  | _, _, _, _, .nil, q => q
  | _, _, _, _, .cons h r, q => .cons h (r.append q)
theorem DatL.get : ∀ {vs : List V} {ds : List Dt} {i : Nat} {d : Dt}, DatL W G vs ds → ds[i]? = some d → ∃ v, vs[i]? = some v ∧ Dat W G v d
  | _, _, 0, _, .cons h r, e => by
    cases e
    exact ⟨_, rfl, h⟩
  | _, _, i + 1, d, .cons h r, e => r.get (i := i) (d := d) e
theorem DatL.getV : ∀ {vs : List V} {ds : List Dt} {i : Nat} {v : V}, DatL W G vs ds → vs[i]? = some v → ∃ d, ds[i]? = some d ∧ Dat W G v d
  | _, _, 0, _, .cons h r, e => by
    cases e
    exact ⟨_, rfl, h⟩
  | _, _, i + 1, d, .cons h r, e => r.getV (i := i) (v := d) e
theorem DatL.take : ∀ {vs : List V} {ds : List Dt} (n : Nat), DatL W G vs ds → DatL W G (vs.take n) (ds.take n)
  | _, _, 0, _ => .nil
  | _, _, _ + 1, .nil => .nil
  | _, _, n + 1, .cons h r => .cons h (r.take n)
theorem DatL.drop : ∀ {vs : List V} {ds : List Dt} (n : Nat), DatL W G vs ds → DatL W G (vs.drop n) (ds.drop n)
  | _, _, 0, q => q
  | _, _, _ + 1, .nil => .nil
  | _, _, n + 1, .cons h r => r.drop n
theorem DatL.reverse : ∀ {vs : List V} {ds : List Dt}, DatL W G vs ds → DatL W G vs.reverse ds.reverse
  | _, _, .nil => .nil
  | _, _, .cons h r => by
    rw [List.reverse_cons, List.reverse_cons]
    exact r.reverse.append (.cons h .nil)
theorem DatL.set {v : V} {d : Dt} (h : Dat W G v d) : ∀ {vs : List V} {ds : List Dt} (i : Nat), DatL W G vs ds → DatL W G (vs.set i v) (ds.set i d)
  | _, _, _, .nil => .nil
  | _, _, 0, .cons _ r => .cons h r
  | _, _, i + 1, .cons q r => .cons q (DatL.set h i r)
theorem DatL.rep {vs : List V} {ds : List Dt} (h : DatL W G vs ds) : ∀ n : Nat, DatL W G (List.replicate n vs).flatten (List.replicate n ds).flatten
  | 0 => .nil
  | n + 1 => by
    rw [List.replicate_succ, List.replicate_succ, List.flatten_cons, List.flatten_cons]
    exact h.append (h.rep n)
theorem DatL.dropLast {vs : List V} {ds : List Dt} (h : DatL W G vs ds) : DatL W G vs.dropLast ds.dropLast := by
  rw [List.dropLast_eq_take, List.dropLast_eq_take, h.length]
  exact h.take _
theorem DatL.ints : ∀ {vs : List V} {ns : List Int}, DatL W G vs (ns.map .int) → vs = ns.map V.int
  | _, [], .nil => rfl
  | _, n :: ns, .cons h r => by
    cases h
    rw [List.map_cons, r.ints]
theorem DatL.of_ints : ∀ (ns : List Int), DatL W G (ns.map V.int) (ns.map .int)
  | [] => .nil
  | n :: ns => .cons (.int n) (DatL.of_ints ns)
theorem DatL.atI {vs : List V} {ds : List Dt} {i : Int} {d : Dt} (r : DatL W G vs ds) (h : atI ds i = some d) : ∃ v, atI vs i = some v ∧ Dat W G v d := by
  unfold L2.atI at h ⊢
  rw [r.length]
  cases e : ixN ds.length i with
  | none =>
    rw [e] at h
    cases h
  | some j =>
    rw [e] at h
    exact r.get (i := j) h
theorem atn_inj : ((List.range 11).all fun i => (List.range 11).all fun j => decide (atn i = atn j) == decide (i = j)) = true := by decide +kernel
theorem atn_ne {i j : Nat} (hi : i < 11) (hj : j < 11) (h : atn i = atn j) : i = j := by
  have q := List.all_eq_true.mp (List.all_eq_true.mp atn_inj i (List.mem_range.mpr hi)) j (List.mem_range.mpr hj)
  rw [decide_eq_true h] at q
  exact of_decide_eq_true (eq_of_beq q).symm
theorem DatF.look : ∀ {vs : List (Str × V)} {fs : List (Nat × Dt)}, DatF W G vs fs → ∀ {i : Nat} {d : Dt}, i < 11 → fs.lookup i = some d → ∃ v, vs.lookup (atn i) = some v ∧ Dat W G v d
  | _, _, .nil, _, _, _, e => by cases e
  | _, _, .cons (i := j) l h r, i, d, li, e => by
    by_cases q : i = j
    · subst q
      rw [List.lookup_cons, beq_self_eq_true] at e
      cases e
      exact ⟨_, by rw [List.lookup_cons, beq_self_eq_true], h⟩
    · have q2 : (i == j) = false := beq_eq_false_iff_ne.mpr q
      have q3 : (atn i == atn j) = false := beq_eq_false_iff_ne.mpr fun z => q (atn_ne li l z)
      rw [List.lookup_cons, q2] at e
      rw [List.lookup_cons, q3]
      exact r.look li e
theorem DatF.length : ∀ {vs : List (Str × V)} {fs : List (Nat × Dt)}, DatF W G vs fs → vs.length = fs.length
  | _, _, .nil => rfl
  | _, _, .cons _ _ r => congrArg (· + 1) r.length
theorem DatF.names : ∀ {vs : List (Str × V)} {fs : List (Nat × Dt)}, DatF W G vs fs → vs.map (·.1) = fs.map fun f => atn f.1
  | _, _, .nil => rfl
  | _, _, .cons _ _ r => by rw [List.map_cons, List.map_cons, r.names]
theorem DatF.lt : ∀ {vs : List (Str × V)} {fs : List (Nat × Dt)}, DatF W G vs fs → ∀ f ∈ fs, f.1 < 11
  | _, _, .nil, _, h => by cases h
  | _, _, .cons l _ r, f, h => by
    rcases List.mem_cons.mp h with e | h
    · rw [e]
      exact l
    · exact r.lt f h
theorem DatF.snoc {v : V} {i : Nat} {d : Dt} (l : i < 11) (h : Dat W G v d) : ∀ {vs : List (Str × V)} {fs : List (Nat × Dt)}, DatF W G vs fs → DatF W G (vs ++ [(atn i, v)]) (fs ++ [(i, d)])
  | _, _, .nil => .cons l h .nil
  | _, _, .cons l2 h2 r => .cons l2 h2 (DatF.snoc l h r)
/-- a field that isn't there -/
theorem DatF.out : ∀ {vs : List (Str × V)} {fs : List (Nat × Dt)}, DatF W G vs fs → ∀ {m : Str}, (∀ i, i < 11 → atn i ≠ m) → vs.lookup m = none
  | _, _, .nil, _, _ => rfl
  | _, _, .cons (i := j) l h r, m, hm => by
    have q3 : (m == atn j) = false := beq_eq_false_iff_ne.mpr fun z => hm j l z.symm
    rw [List.lookup_cons, q3]
    exact r.out hm
theorem putF_new {f : Str} {y : V} : ∀ {vs : List (Str × V)}, (∀ p ∈ vs, p.1 ≠ f) → putF f y vs = vs ++ [(f, y)]
  | [], _ => rfl
  | (g, z) :: r, h => by
    have h1 : g ≠ f := h _ List.mem_cons_self
    show (if g = f then (g, y) :: r else (g, z) :: putF f y r) = _
    rw [if_neg h1, putF_new fun p hp => h p (List.mem_cons_of_mem _ hp)]
    rfl
theorem DatF.putF {v : V} {i : Nat} {d : Dt} (l : i < 11) (h : Dat W G v d) {vs : List (Str × V)} {fs : List (Nat × Dt)} (r : DatF W G vs fs) (hn : (fs.map (·.1)).contains i = false) : DatF W G (L2.putF (atn i) v vs) (fs ++ [(i, d)]) := by
  rw [putF_new]
  · exact DatF.snoc l h r
  · intro p hp e
    have h1 : p.1 ∈ vs.map (·.1) := List.mem_map.mpr ⟨p, hp, rfl⟩
    rw [r.names] at h1
    obtain ⟨f, hf, ef⟩ := List.mem_map.mp h1
    have e2 : f.1 = i := atn_ne (r.lt f hf) l (ef.trans e)
    have h2 : i ∈ fs.map (·.1) := List.mem_map.mpr ⟨f, hf, e2⟩
    rw [List.contains_iff_mem.mpr h2] at hn
    cases hn
end
end Ob
/-! part Ob1 -/
/-! The program's text in short (Ex, Sx), and what it does to data: wpE, wpS. -/
namespace Ob
open PySem L2

/-- expressions, argument lists, tests, targets, things walked -/
inductive Ex where
  | c (d : Dt)
  | slot (i : Nat)
  | bin (op : Operator) (m : Bool) (a b : Ex)
  | neg (a : Ex)
  | not (a : Ex)
  | or_ (a b : Ex)
  | and_ (a b : Ex)
  | cmp (op : CmpOp) (a b : Ex)
  | chain (op op2 : CmpOp) (a b c : Ex)
  | ife (t a b : Ex)
  | tup (es : Ex)
  | lst (m : Bool) (es : Ex)
  | nil
  | cons (e es : Ex)
  | star (e es : Ex)
  | ix (a i : Ex)
  | cut (m : Bool) (a lo hi : Ex)
  | noE
  | att (a : Ex) (i : Nat)
  | len (a : Ex)
  | list (m : Bool) (a : Ex)
  | tuple (a : Ex)
  | sum (a : Ex)
  | min1 (a : Ex)
  | min2 (a b : Ex)
  | int (a : Ex)
  | all (a : Ex)
  | sset (a : Ex)
  | mdict (a : Ex)
  | isi (a : Ex) (ty : Nat)
  | pop (a : Ex)
  | app (a e : Ex)
  | exd (a e : Ex)
  | call (j : Nat) (es : Ex)
  | meth (c j : Nat) (a es : Ex)
  | new (c j : Nat) (es : Ex)
  | lc (m : Bool) (own : List Nat) (elt tg it tt : Ex)
  | fz (a : Ex)
  | bor (a : Ex)
  | tv (a : Ex)
  | tnot (a : Ex)
  | tand (a b : Ex)
  | tor (a b : Ex)
  | iSeq (a : Ex)
  | iRan (a : Ex)
  | iRan2 (a b : Ex)
  | iEnum (a : Ex)
  | iZip (a b : Ex)
  | iRev (a : Ex)
  | gTup (es : Ex)

inductive Sx where
  | skip
  | seq (a b : Sx)
  | asg (tg e : Ex)
  | seti (a i e : Ex)
  | augi (a i e : Ex)
  | seta (a : Ex) (i : Nat) (e : Ex)
  | drop (e : Ex)
  | forr (tg it : Ex) (b : Sx)
  | whil (t : Ex) (b : Sx)
  | iff (t : Ex) (a b : Sx)
  | ret (e : Ex)
  | rais
  | frz (i : Nat)

/-! ### what operations do to data -/
def LIM : Nat := 1000000
/-- the items of a list, a tuple, a cell -/
def seqOf (m : Mu) : Dt → Option (List Dt)
  | .lst ds => some ds
  | .tup ds => some ds
  | .scr ns => some (ns.map .int)
  | .adr p => match get m p with
    | some (.lst ds) => some ds
    | _ => none
  | _ => none
/-- .. of a list that is tracked -/
def lstOf (m : Mu) : Dt → Option (List Dt)
  | .lst ds => some ds
  | .adr p => match get m p with
    | some (.lst ds) => some ds
    | _ => none
  | _ => none
/-- .. of what stands still -/
def frzOf : Dt → Option (List Dt)
  | .lst ds => some ds
  | .tup ds => some ds
  | _ => none
def intsOf : List Dt → Option (List Int)
  | [] => some []
  | .int i :: r => (intsOf r).map (i :: ·)
  | _ :: _ => none
theorem intsOf_map : ∀ ns : List Int, intsOf (ns.map .int) = some ns
  | [] => rfl
  | n :: ns => by
    show (intsOf (ns.map .int)).map (n :: ·) = _
    rw [intsOf_map ns]
    rfl
theorem intsOf_eq : ∀ {ds : List Dt} {ns : List Int}, intsOf ds = some ns → ds = ns.map .int
  | [], _, h => by cases h; rfl
  | .int i :: r, ns, h => by
    have h2 : (intsOf r).map (i :: ·) = some ns := h
    cases e : intsOf r with
    | none =>
      rw [e] at h2
      cases h2
    | some q =>
      rw [e] at h2
      cases h2
      rw [intsOf_eq e]
      rfl
def mvOf : Dt → Option Mv
  | .tup [.int l, .tup cs, .int t] => (intsOf cs).map fun ns => (l, ns, t)
  | _ => none
theorem mvOf_mvD (m : Mv) : mvOf (mvD m) = some m := by
  show (intsOf (m.2.1.map .int)).map (fun ns => (m.1, ns, m.2.2)) = some m
  rw [intsOf_map]
  rfl
theorem mvOf_eq {d : Dt} {m : Mv} (h : mvOf d = some m) : d = mvD m := by
  unfold mvOf at h
  split at h
  · rename_i l cs t
    cases e : intsOf cs with
    | none =>
      rw [e] at h
      cases h
    | some ns =>
      rw [e] at h
      cases h
      rw [intsOf_eq e]
      rfl
  · cases h
def mvsOf : List Dt → Option (List Mv)
  | [] => some []
  | d :: r => match mvOf d, mvsOf r with
    | some m, some ms => some (m :: ms)
    | _, _ => none
theorem mvsOf_map : ∀ ms : List Mv, mvsOf (ms.map mvD) = some ms
  | [] => rfl
  | m :: ms => by
    show (match mvOf (mvD m), mvsOf (ms.map mvD) with
      | some m, some ms => some (m :: ms)
      | _, _ => none) = some (m :: ms)
    rw [mvOf_mvD, mvsOf_map ms]
theorem mvsOf_eq : ∀ {ds : List Dt} {ms : List Mv}, mvsOf ds = some ms → ds = ms.map mvD
  | [], _, h => by cases h; rfl
  | d :: r, ms, h => by
    unfold mvsOf at h
    cases e1 : mvOf d with
    | none =>
      rw [e1] at h
      cases h
    | some m =>
      cases e2 : mvsOf r with
      | none =>
        rw [e1, e2] at h
        cases h
      | some q =>
        rw [e1, e2] at h
        cases h
        rw [mvOf_eq e1, mvsOf_eq e2]
        rfl
/-- a pair of a cost and labels -/
abbrev Pr := Int × List Int
def prD (p : Pr) : Dt := .tup [.int p.1, .lst (p.2.map .int)]
def prOf : Dt → Option Pr
  | .tup [.int c, .lst ds] => (intsOf ds).map fun ns => (c, ns)
  | _ => none
theorem prOf_prD (p : Pr) : prOf (prD p) = some p := by
  show (intsOf (p.2.map .int)).map (fun ns => (p.1, ns)) = some p
  rw [intsOf_map]
  rfl
theorem prOf_eq {d : Dt} {p : Pr} (h : prOf d = some p) : d = prD p := by
  unfold prOf at h
  split at h
  · rename_i c ds
    cases e : intsOf ds with
    | none =>
      rw [e] at h
      cases h
    | some ns =>
      rw [e] at h
      cases h
      rw [intsOf_eq e]
      rfl
  · cases h
/-- lists in their order -/
def lexL : List Int → List Int → Bool
  | [], [] => false
  | [], _ :: _ => true
  | _ :: _, [] => false
  | x :: xs, y :: ys => if x = y then lexL xs ys else decide (x < y)
/-- pairs in their order -/
def prLt (p q : Pr) : Bool := if p.1 = q.1 then lexL p.2 q.2 else decide (p.1 < q.1)
def prMin (p q : Pr) : Pr := if prLt q p = true then q else p
def flat : Dt → Bool
  | .non => true
  | .int _ => true
  | _ => false
def eqF : Dt → Dt → Bool
  | .non, .non => true
  | .int i, .int j => decide (i = j)
  | _, _ => false
/-- == of flat things -/
def eqS : Dt → Dt → Option Bool
  | .non, .non => some true
  | .non, .int _ => some false
  | .int _, .non => some false
  | .int i, .int j => some (decide (i = j))
  | .bl a, .bl b => some (decide (a = b))
  | .non, .bl _ => some false
  | .bl _, .non => some false
  | _, _ => none
def isN : Dt → Bool
  | .non => true
  | _ => false
def inS (m : Mu) : Dt → Dt → Option Bool
  | .tup ts, .keys ms => (mvOf (.tup ts)).map fun k => decide (k ∈ ms)
  | .tup ts, .lst ds => match mvOf (.tup ts), mvsOf ds with
    | some k, some ms => some (decide (k ∈ ms))
    | _, _ => none
  | .tup _, _ => none
  | x, y => match seqOf m y with
    | some ds => if flat x && ds.all flat then some (ds.any fun d => eqF d x) else none
    | none => none
def cmpS (m : Mu) : CmpOp → Dt → Dt → Option Bool
  | .Eq, x, y => eqS x y
  | .NotEq, x, y => (eqS x y).map Bool.not
  | .Lt, .int i, .int j => some (decide (i < j))
  | .LtE, .int i, .int j => some (decide (i ≤ j))
  | .Gt, .int i, .int j => some (decide (j < i))
  | .GtE, .int i, .int j => some (decide (j ≤ i))
  | .Is, x, .non => some (isN x)
  | .IsNot, x, .non => some (!isN x)
  | .In, x, y => inS m x y
  | .NotIn, x, y => (inS m x y).map Bool.not
  | _, _, _ => none
/-- a value's truth -/
def truS (m : Mu) : Dt → Option Bool
  | .non => some false
  | .bl b => some b
  | .int i => some (i != 0)
  | .lst ds => some (!ds.isEmpty)
  | .tup ds => some (!ds.isEmpty)
  | .adr p => match get m p with
    | some (.lst ds) => some (!ds.isEmpty)
    | _ => none
  | _ => none
/-- a new list: a cell, or at rest -/
def newK (m : Bool) (ds : List Dt) (u : Mu) (K : Dt → Mu → Prop) : Prop :=
  match m with
  | true => ∀ p, p ∉ adrs u → K (.adr p) ((p, .lst ds) :: u)
  | false => K (.lst ds) u
def binK (op : Operator) (m : Bool) (x y : Dt) (u : Mu) (K : Dt → Mu → Prop) : Prop :=
  match op, x, y with
  | .Add, .int i, .int j => K (.int (i + j)) u
  | .Sub, .int i, .int j => K (.int (i - j)) u
  | .Mult, .int i, .int j => (i.natAbs < 4294967296 ∨ j.natAbs < 4294967296) ∧ K (.int (i * j)) u
  | .Mod, .int i, .int j => 0 < j ∧ K (.int (i % j)) u
  | .FloorDiv, .int i, .int j => (0 < j ∧ j < 1073741824) ∧ K (.int (i / j)) u
  | .Pow, .int i, .int j => (0 ≤ j ∧ j ≤ 1000 ∧ i.natAbs < 4294967296) ∧ K (.int (i ^ j.toNat)) u
  | .Add, x, y => ∃ xs ys, lstOf u x = some xs ∧ lstOf u y = some ys ∧ xs.length + ys.length ≤ LIM ∧ newK m (xs ++ ys) u K
  | .Mult, x, .int k => ∃ xs, lstOf u x = some xs ∧ 0 ≤ k ∧ k ≤ 1000 ∧ xs.length ≤ 1000 ∧ newK m (List.replicate k.toNat xs).flatten u K
  | _, _, _ => False
/-- which types an isinstance asks: tuple 0, list 1, bool 2, int 3, str 4 -/
def isiS (m : Mu) (ty : Nat) : Dt → Option Bool
  | .non => some false
  | .bl _ => some (ty == 2 || ty == 3)
  | .int _ => some (ty == 3)
  | .lst _ => some (ty == 1)
  | .tup _ => some (ty == 0)
  | .adr p => match get m p with
    | some (.lst _) => some (ty == 1)
    | _ => none
  | _ => none
def blsOf : List Dt → Option (List Bool)
  | [] => some []
  | .bl b :: r => (blsOf r).map (b :: ·)
  | _ :: _ => none
/-- the part of a list -/
def cutD (xs : List Dt) (lo hi : Option Int) : List Dt := (xs.drop (HT.sIx xs.length 0 lo)).take (HT.sIx xs.length xs.length hi - HT.sIx xs.length 0 lo)
def wipeD (d : Dl) : List Nat → Dl
  | [] => d
  | v :: vs => (wipeD d vs).set v none
def scalar : Dt → Bool
  | .non => true
  | .bl _ => true
  | .int _ => true
  | _ => false
mutual
/-- a datum with its list cells read -/
def res (m : Mu) : Dt → Dt
  | .adr p => match get m p with
    | some (.lst ds) => .lst ds
    | _ => .adr p
  | .lst xs => .lst (resL m xs)
  | .tup xs => .tup (resL m xs)
  | .ins c fs => .ins c (resF m fs)
  | d => d
def resL (m : Mu) : List Dt → List Dt
  | [] => []
  | d :: r => res m d :: resL m r
def resF (m : Mu) : List (Nat × Dt) → List (Nat × Dt)
  | [] => []
  | (i, d) :: r => (i, res m d) :: resF m r
end
/-- put to rest: a list cell -/
def fz1 (m : Mu) : Dt → Dt × Mu
  | .adr p => match get m p with
    | some (.lst ds) => (.lst ds, del m p)
    | _ => (.adr p, m)
  | d => (d, m)
def fzL (m : Mu) : List Dt → List Dt × Mu
  | [] => ([], m)
  | d :: r => let q := fz1 m d; let s := fzL q.2 r; (q.1 :: s.1, s.2)
/-- .. with the cells that it holds -/
def fz2 (m : Mu) : Dt → Dt × Mu
  | .adr p => match get m p with
    | some (.lst ds) => let q := fzL (del m p) ds; (.lst q.1, q.2)
    | _ => (.adr p, m)
  | d => (d, m)

/-- what a def does: its arguments, the cells, what is wanted -/
abbrev FS := List Dt → Mu → (Dt → Mu → Prop) → Prop

def wpG : Ex → Dt → Dl → (Dl → Prop) → Prop
  | .slot i, d, l, K => K (l.set i (some d))
  | .gTup es, d, l, K => ∃ ds, d = .tup ds ∧ wpGs es ds l K
  | _, _, _, _ => False
where wpGs : Ex → List Dt → Dl → (Dl → Prop) → Prop
  | .nil, ds, l, K => ds = [] ∧ K l
  | .cons e es, ds, l, K => ∃ d r, ds = d :: r ∧ wpG e d l fun l2 => wpGs es r l2 K
  | _, _, _, _ => False

section
variable (F : Nat → FS)
mutual
def wpE : Ex → Dl → Mu → (Dt → Mu → Prop) → Prop
  | .c d, _, u, K => K d u
  | .slot i, l, u, K => ∃ d, l[i]? = some (some d) ∧ K d u
  | .bin op m a b, l, u, K => wpE a l u fun x u1 => wpE b l u1 fun y u2 => binK op m x y u2 K
  | .neg a, l, u, K => wpE a l u fun x u1 => ∃ i, x = .int i ∧ K (.int (-i)) u1
  | .not a, l, u, K => wpE a l u fun x u1 => ∃ b, x = .bl b ∧ K (.bl (!b)) u1
  | .or_ a b, l, u, K => wpE a l u fun x u1 => ∃ t, truS u1 x = some t ∧ (t = true → K x u1) ∧ (t = false → wpE b l u1 K)
  | .and_ a b, l, u, K => wpE a l u fun x u1 => ∃ t, truS u1 x = some t ∧ (t = false → K x u1) ∧ (t = true → wpE b l u1 K)
  | .cmp op a b, l, u, K => wpE a l u fun x u1 => wpE b l u1 fun y u2 => ∃ r, cmpS u2 op x y = some r ∧ K (.bl r) u2
  | .chain op op2 a b c, l, u, K => wpE a l u fun x u1 => wpE b l u1 fun y u2 => ∃ r, cmpS u2 op x y = some r ∧
      (r = false → K (.bl false) u2) ∧ (r = true → wpE c l u2 fun z u3 => ∃ r2, cmpS u3 op2 y z = some r2 ∧ K (.bl r2) u3)
  | .ife t a b, l, u, K => wpT t l u fun k u1 => (k = true → wpE a l u1 K) ∧ (k = false → wpE b l u1 K)
  | .tup es, l, u, K => wpA es l u fun ds u1 => ds.length ≤ LIM ∧ K (.tup ds) u1
  | .lst m es, l, u, K => wpA es l u fun ds u1 => ds.length ≤ LIM ∧ newK m ds u1 K
  | .ix a i, l, u, K => wpE a l u fun x u1 => wpE i l u1 fun y u2 => ∃ ds k d, seqOf u2 x = some ds ∧ y = .int k ∧ atI ds k = some d ∧ K d u2
  | .cut m a lo hi, l, u, K => wpE a l u fun x u1 => wpO lo l u1 fun p u2 => wpO hi l u2 fun q u3 => ∃ ds, lstOf u3 x = some ds ∧ newK m (cutD ds p q) u3 K
  | .att a i, l, u, K => wpE a l u fun x u1 => ∃ c fs d, ((x = .ins c fs ∨ ∃ p, x = .adr p ∧ get u1 p = some (.ins c fs)) ∧ fs.lookup i = some d) ∧ i < 11 ∧ K d u1
  | .len a, l, u, K => wpE a l u fun x u1 => ∃ ds, seqOf u1 x = some ds ∧ K (.int (ds.length : Int)) u1
  | .list m a, l, u, K => wpE a l u fun x u1 => ∃ ds, seqOf u1 x = some ds ∧ newK m ds u1 K
  | .tuple a, l, u, K => wpE a l u fun x u1 => ∃ ds, (x = .tup ds ∨ lstOf u1 x = some ds) ∧ K (.tup ds) u1
  | .sum a, l, u, K => wpE a l u fun x u1 => ∃ ds ns, lstOf u1 x = some ds ∧ intsOf ds = some ns ∧ K (.int ns.sum) u1
  | .min1 a, l, u, K => wpE a l u fun x u1 => ∃ ds ns, lstOf u1 x = some ds ∧ intsOf ds = some ns ∧ ns ≠ [] ∧ ∀ k, k ∈ ns → (∀ y, y ∈ ns → k ≤ y) → K (.int k) u1
  | .min2 a b, l, u, K => wpE a l u fun x u1 => wpE b l u1 fun y u2 => ∃ p q, x = prD p ∧ y = prD q ∧ K (prD (prMin p q)) u2
  | .int a, l, u, K => wpE a l u fun x u1 => (∃ i, x = .int i ∧ K (.int i) u1) ∨ ∃ b, x = .bl b ∧ K (.int (if b then 1 else 0)) u1
  | .all a, l, u, K => wpE a l u fun x u1 => ∃ ds bs, lstOf u1 x = some ds ∧ blsOf ds = some bs ∧ K (.bl (bs.all id)) u1
  | .sset a, l, u, K => wpE a l u fun x u1 => (∃ ms : List Mv, x = .lst (ms.map mvD) ∧ ms.length ≤ 12 ∧ ∀ os : List Mv, os.Nodup → (∀ z, z ∈ os ↔ z ∈ ms) → K (.lst (os.map mvD)) u1) ∨
      ∃ ns : List Int, x = .lst (ns.map .int) ∧ ns.length ≤ 12 ∧ ∀ os : List Int, os.Nodup → (∀ z, z ∈ os ↔ z ∈ ns) → K (.lst (os.map .int)) u1
  | .mdict a, l, u, K => wpE a l u fun x u1 => ∃ ms : List Mv, x = .lst (ms.map fun m => .tup [mvD m, .bl true]) ∧ ms.Nodup ∧ ms.length ≤ 1000 ∧ K (.keys ms) u1
  | .isi a ty, l, u, K => wpE a l u fun x u1 => ∃ r, isiS u1 ty x = some r ∧ K (.bl r) u1
  | .pop a, l, u, K => wpE a l u fun x u1 => ∃ p ds d, x = .adr p ∧ get u1 p = some (.lst (ds ++ [d])) ∧ K d (put u1 p (.lst ds))
  | .app a e, l, u, K => wpE a l u fun x u1 => ∃ p ds0, x = .adr p ∧ get u1 p = some (.lst ds0) ∧ wpE e l u1 fun d u2 => ∃ ds, get u2 p = some (.lst ds) ∧ ds.length < LIM ∧ K .non (put u2 p (.lst (ds ++ [d])))
  | .exd a e, l, u, K => wpE a l u fun x u1 => ∃ p ds0, x = .adr p ∧ get u1 p = some (.lst ds0) ∧ wpE e l u1 fun y u2 => ∃ ds es, get u2 p = some (.lst ds) ∧ y = .lst es ∧ ds.length + es.length ≤ LIM ∧ K .non (put u2 p (.lst (ds ++ es)))
  | .call j es, l, u, K => wpA es l u fun ds u1 => F j ds u1 K
  | .meth c j a es, l, u, K => wpE a l u fun x u1 => ∃ fs, x = .ins c fs ∧ wpA es l u1 fun ds u2 => F j (x :: ds) u2 K
  | .new c j es, l, u, K => wpA es l u fun ds u1 => ∀ p, p ∉ adrs u1 → F j (.adr p :: ds) ((p, .ins c []) :: u1) fun d u2 => d = .non ∧ ∃ fs, get u2 p = some (.ins c fs) ∧ K (.ins c fs) (del u2 p)
  | .lc m own elt tg it tt, l, u, K => wpI it l u fun ds u1 => ds.length ≤ LIM ∧ ∃ I : Nat → List Dt → Mu → Prop, I 0 [] u1 ∧
      (∀ i acc u2 d, ds[i]? = some d → I i acc u2 → wpG tg d (wipeD l own) fun l2 => wpT tt l2 u2 fun b u3 => (b = true → wpE elt l2 u3 fun y u4 => I (i + 1) (acc ++ [y]) u4) ∧ (b = false → I (i + 1) acc u3)) ∧
      ∀ acc u2, I ds.length acc u2 → newK m acc u2 K
  | .fz a, l, u, K => wpE a l u fun d u1 => K (fz2 u1 d).1 (fz2 u1 d).2
  | .bor a, l, u, K => wpE a (l.map fun o => o.map (res u)) [] fun d _ => scalar d = true ∧ K d u
  | _, _, _, _ => False
def wpA : Ex → Dl → Mu → (List Dt → Mu → Prop) → Prop
  | .nil, _, u, K => K [] u
  | .cons e es, l, u, K => wpE e l u fun d u1 => wpA es l u1 fun ds u2 => K (d :: ds) u2
  | .star e es, l, u, K => wpE e l u fun d u1 => ∃ xs, frzOf d = some xs ∧ wpA es l u1 fun ds u2 => K (xs ++ ds) u2
  | _, _, _, _ => False
def wpT : Ex → Dl → Mu → (Bool → Mu → Prop) → Prop
  | .tv a, l, u, K => wpE a l u fun d u1 => ∃ t, truS u1 d = some t ∧ K t u1
  | .tnot a, l, u, K => wpT a l u fun t u1 => K (!t) u1
  | .tand a b, l, u, K => wpT a l u fun t u1 => (t = false → K false u1) ∧ (t = true → wpT b l u1 K)
  | .tor a b, l, u, K => wpT a l u fun t u1 => (t = true → K true u1) ∧ (t = false → wpT b l u1 K)
  | .noE, _, u, K => K true u
  | _, _, _, _ => False
def wpO : Ex → Dl → Mu → (Option Int → Mu → Prop) → Prop
  | .noE, _, u, K => K none u
  | .tv a, l, u, K => wpE a l u fun d u1 => ∃ i, d = .int i ∧ K (some i) u1
  | _, _, _, _ => False
def wpI : Ex → Dl → Mu → (List Dt → Mu → Prop) → Prop
  | .iSeq a, l, u, K => wpE a l u fun d u1 => ∃ ds, frzOf d = some ds ∧ K ds u1
  | .iRan a, l, u, K => wpE a l u fun d u1 => ∃ i, d = .int i ∧ 0 ≤ i ∧ i ≤ 1000000 ∧ K ((List.range i.toNat).map fun k => .int (k : Nat)) u1
  | .iRan2 a b, l, u, K => wpE a l u fun d u1 => wpE b l u1 fun e u2 => ∃ i j, d = .int i ∧ e = .int j ∧ 0 ≤ i ∧ i ≤ 1000000 ∧ 0 ≤ j ∧ j ≤ 1000000 ∧ K ((List.range (j - i).toNat).map fun k => .int (i + (k : Nat))) u2
  | .iEnum a, l, u, K => wpE a l u fun d u1 => ∃ ds, d = .lst ds ∧ K (ds.mapIdx fun i d => .tup [.int (i : Nat), d]) u1
  | .iZip a b, l, u, K => wpE a l u fun d u1 => wpE b l u1 fun e u2 => ∃ ds es, d = .tup ds ∧ e = .tup es ∧ K (List.zipWith (fun x y => .tup [x, y]) ds es) u2
  | .iRev a, l, u, K => wpE a l u fun d u1 => ∃ ds, d = .tup ds ∧ K ds.reverse u1
  | _, _, _, _ => False
end

def wpS : Sx → Dl → Mu → (Dl → Mu → Prop) → (Dt → Mu → Prop) → Prop
  | .skip, l, u, K, _ => K l u
  | .seq a b, l, u, K, R => wpS a l u (fun l1 u1 => wpS b l1 u1 K R) R
  | .asg tg e, l, u, K, _ => wpE F e l u fun d u1 => wpG tg d l fun l1 => K l1 u1
  | .seti a i e, l, u, K, _ => wpE F e l u fun d u1 => wpE F a l u1 fun x u2 => wpE F i l u2 fun y u3 => ∃ p ds k j, x = .adr p ∧ get u3 p = some (.lst ds) ∧ y = .int k ∧ ixN ds.length k = some j ∧ K l (put u3 p (.lst (ds.set j d)))
  | .augi a i e, l, u, K, _ => wpE F a l u fun x u1 => wpE F i l u1 fun y u2 => ∃ p ds k j n, x = .adr p ∧ get u2 p = some (.lst ds) ∧ y = .int k ∧ ixN ds.length k = some j ∧ ds[j]? = some (.int n) ∧
      wpE F e l u2 fun d u3 => ∃ n2, d = .int n2 ∧ u3 = u2 ∧ K l (put u3 p (.lst (ds.set j (.int (n + n2)))))
  | .seta a i e, l, u, K, _ => wpE F e l u fun d u1 => wpE F a l u1 fun x u2 => ∃ p c fs, x = .adr p ∧ get u2 p = some (.ins c fs) ∧ (fs.map (·.1)).contains i = false ∧ fs.length ≤ 20 ∧ i < 11 ∧ K l (put u2 p (.ins c (fs ++ [(i, d)])))
  | .drop e, l, u, K, _ => wpE F e l u fun _ u1 => K l u1
  | .forr tg it b, l, u, K, R => wpI F it l u fun ds u1 => ∃ I : Nat → Dl → Mu → Prop, I 0 l u1 ∧
      (∀ i l2 u2 d, ds[i]? = some d → I i l2 u2 → wpG tg d l2 fun l3 => wpS b l3 u2 (I (i + 1)) R) ∧ ∀ l2 u2, I ds.length l2 u2 → K l2 u2
  | .whil t b, l, u, K, R => ∃ I : Nat → Dl → Mu → Prop, (∃ n, I n l u) ∧ ∀ n l2 u2, I n l2 u2 → wpT F t l2 u2 fun k u3 =>
      (k = true → wpS b l2 u3 (fun l4 u4 => ∃ n', n' < n ∧ I n' l4 u4) R) ∧ (k = false → K l2 u3)
  | .iff t a b, l, u, K, R => wpT F t l u fun k u1 => (k = true → wpS a l u1 K R) ∧ (k = false → wpS b l u1 K R)
  | .ret e, l, u, _, R => wpE F e l u R
  | .rais, _, _, _, _ => False
  | .frz i, l, u, K, _ => ∃ d, l[i]? = some (some d) ∧ K (l.set i (some (fz2 u d).1)) (fz2 u d).2
end
end Ob
/-! part Oc -/
/-! From the given text to the short one: trE, trS; what stays open of a new list (cell or at rest) is told by hints. -/
namespace Ob
open PySem L2

/-- a hint: does the new list stay a cell, and the lists within -/
inductive Ht where
  | h (m : Bool) (ks : List Ht)
def Ht.no : Ht := .h false []
def Ht.m : Ht → Bool
  | .h m _ => m
def Ht.kid : Ht → Nat → Ht
  | .h _ ks, i => ks.getD i .no

structure Ctx where
  N : List Str
  sc : Scope
  fn : Str → Bool
  fns : List (Str × Nat) := []
  cls : List (Str × Nat × Nat) := []
  mth : List (Str × Nat × Nat) := []
  cst : List (Str × Int) := []
  mu : List (Nat × Ht) := []
  rh : Ht := .no
  ah : Ht := .no
  sh : List (Nat × Ht) := []
  fzs : List Nat := []
  bors : List Str := []
  cah : List (Str × Ht) := []
  cfz : List Str := []
  pfz : List (Str × Nat) := []

def posOf : List Str → Str → Nat → Option Nat
  | [], _, _ => none
  | y :: r, x, i => if y = x then some i else posOf r x (i + 1)
theorem posOf_get : ∀ {l : List Str} {x : Str} {i j : Nat}, posOf l x i = some j → i ≤ j ∧ l[j - i]? = some x
  | y :: r, x, i, j, h => by
    unfold posOf at h
    split at h
    · rename_i e
      cases h
      exact ⟨Nat.le_refl _, by rw [Nat.sub_self, e]; rfl⟩
    · obtain ⟨h1, h2⟩ := posOf_get h
      have e : j - i = (j - (i + 1)) + 1 := by omega
      exact ⟨by omega, by rw [e]; exact h2⟩
def isVis (C : Ctx) (x : Str) : Bool := match C.sc.names.lookup x with
  | some .local => true
  | some .cell => true
  | some .free => true
  | _ => false
def plainName (x : Str) : Bool := !(x == ("__debug__" : Str)) && !(x == ("__classdict__" : Str)) && !(x == ("__name__" : Str))
def slotOf (C : Ctx) (x : Str) : Option Nat := if isVis C x && plainName x then posOf C.N x 0 else none
def isGl (C : Ctx) (x : Str) : Bool := decide (C.sc.names.lookup x = some .globalImplicit) && plainName x
def atNo (x : Str) : Option Nat := posOf ["letters", "labels", "moves", "ends", "kind", "cost", "numbers", "machine", "prices", "fine", "ring"] x 0
def tyNo (x : Str) : Option Nat := posOf ["tuple", "list", "bool", "int", "str"] x 0
/-- the names that a block of a comprehension has of its own, with their slots -/
def ownOf (N : List Str) (sc : Scope) : List (Str × Nat) := sc.names.filterMap fun y => match y.2 with
  | .local => (posOf N y.1 0).map fun i => (y.1, i)
  | .cell => (posOf N y.1 0).map fun i => (y.1, i)
  | _ => none
def Ctx.blk (C : Ctx) (scope : Scope) : Ctx := { C with sc := relS scope C.sc, fn := fun x => scope.names.lookup x == some .cell }
/-- a name that is let out: put to rest if the hints say so -/
def outS (C : Ctx) (esc : Bool) (i : Nat) : Ex := if esc && C.fzs.contains i then .fz (.slot i) else .slot i
def isStar : Expr → Bool
  | .Starred _ _ => true
  | _ => false
def isSlice : Expr → Bool
  | .Slice _ _ _ _ => true
  | _ => false
def isTuple : Expr → Bool
  | .Tuple _ _ _ => true
  | _ => false
def isSet : Expr → Bool
  | .Set _ _ _ => true
  | _ => false
def isLc : Expr → Bool
  | .ListComp _ _ _ _ => true
  | .SetComp _ _ _ _ => true
  | .DictComp _ _ _ _ _ => true
  | _ => false
/-- what may stand ahead of a dot -/
def byBase : Expr → Bool
  | .Name _ _ => true
  | .Attribute _ _ _ => true
  | .Subscript _ _ _ => true
  | _ => false
/-- expressions whose truth is asked of their value -/
def byVal : Expr → Bool
  | .Name _ _ => true
  | .Call _ _ _ _ => true
  | .Attribute _ _ _ => true
  | .Subscript _ _ _ => true
  | _ => false
/-- the slots of a target -/
def slotsG : Ex → List Nat
  | .slot i => [i]
  | .gTup es => slotsG es
  | .cons e es => slotsG e ++ slotsG es
  | _ => []
def trG : Nat → Ctx → Expr → Option Ex
  | 0, _, _ => none
  | n + 1, C, e => match e with
    | .Name x _ => if decide (C.sc.names.lookup x = some .local) || (decide (C.sc.names.lookup x = some .cell) && C.fn x) then (posOf C.N x 0).map .slot else none
    | .Tuple es _ _ => (trGs n C es).map .gTup
    | _ => none
where trGs : Nat → Ctx → List Expr → Option Ex
  | 0, _, _ => none
  | _ + 1, _, [] => some .nil
  | n + 1, C, e :: es => match trG n C e, trGs n C es with
    | some a, some b => some (.cons a b)
    | _, _ => none
mutual
def trE : Nat → Ctx → Ht → Bool → Expr → Option Ex
  | 0, _, _, _, _ => none
  | n + 1, C, h, esc, e => match e with
    | .Constant (.int i) _ _ => some (.c (.int i))
    | .Constant (.bool b) _ _ => some (.c (.bl b))
    | .Constant .none _ _ => some (.c .non)
    | .Constant (.str x) _ _ => some (.c (.str x))
    | .Name x _ => match slotOf C x with
      | some i => some (outS C esc i)
      | none => if isGl C x then (C.cst.lookup x).map fun i => .c (.int i) else none
    | .BinOp a op b _ => match trE n C .no false a, trE n C .no false b with
      | some a', some b' => some (.bin op h.m a' b')
      | _, _ => none
    | .UnaryOp .USub a _ => (trE n C .no false a).map .neg
    | .UnaryOp .Not a _ => (trE n C .no false a).map .not
    | .BoolOp .Or es _ => trB n C true es
    | .BoolOp .And es _ => trB n C false es
    | .Compare a [op] [b] _ => if behindInMarks op b then none else match trE n C .no false a, trE n C .no false b with
      | some a', some b' => some (.cmp op a' b')
      | _, _ => none
    | .Compare a [op, op2] [b, c] _ => if lastMarks [op, op2] [b, c] then none else match trE n C .no false a, trE n C .no false b, trE n C .no false c with
      | some a', some b', some c' => some (.chain op op2 a' b' c')
      | _, _, _ => none
    | .IfExp t a b _ => match trT n C t, trE n C .no false a, trE n C .no false b with
      | some t', some a', some b' => some (.ife t' a' b')
      | _, _, _ => none
    | .Tuple es _ _ => (trA n C h 0 true es).map .tup
    | .List es _ => (trA n C h 0 true es).map (.lst h.m)
    | .Subscript a (.Slice lo hi none _) _ => match trE n C .no false a, trO n C lo, trO n C hi with
      | some a', some l', some h' => some (.cut h.m a' l' h')
      | _, _, _ => none
    | .Subscript a i _ => if isSlice i then none else match trE n C .no false a, trE n C .no false i with
      | some a', some i' => some (.ix a' i')
      | _, _ => none
    | .Attribute a x _ => if !byBase a then none else match trE n C .no false a, atNo x with
      | some a', some i => some (.att a' i)
      | _, _ => none
    | .Call (.Attribute o m ap) args [] cp => if !byBase o || !(ap.endLine == cp.line) then none else if m = "pop" then (if args.isEmpty then (trE n C .no false o).map .pop else none)
      else if m = "append" then (match args with
        | [e] => if isStar e then none else (match trE n C .no false o, trE n C C.ah true e with
          | some o', some e' => some (.app o' e')
          | _, _ => none)
        | _ => none)
      else if m = "extend" then (match args with
        | [e] => if isStar e then none else (match trE n C .no false o, trE n C .no false e with
          | some o', some e' => some (.exd o' e')
          | _, _ => none)
        | _ => none)
      else match C.mth.lookup m, trE n C .no false o with
        | some (c, j), some o' => if args.any isStar || args.isEmpty || (atNo m).isSome || !decide (args.length < 20) then none else (trA n C .no 0 false args).map (.meth c j o')
        | _, _ => none
    | .Call (.Name x _) args [] _ => if isGl C x then trC n C h x args else none
    | .ListComp elt [⟨tg, iter, ifs, 0⟩] scope _ =>
      if blkC C.N C.sc scope (ownOf C.N scope) && !isSet iter then
        match trI n C tg iter, trG n (C.blk scope) tg, trE n (C.blk scope) (h.kid 0) true elt, trF n (C.blk scope) ifs with
        | some i', some g', some e', some t' => if (slotsG g').all (((ownOf C.N scope).map (·.2)).contains ·) then some (.lc h.m ((ownOf C.N scope).map (·.2)) e' g' i' t') else none
        | _, _, _, _ => none
      else none
    | _ => none
/-- a call of a global name -/
def trC : Nat → Ctx → Ht → Str → List Expr → Option Ex
  | 0, _, _, _, _ => none
  | n + 1, C, h, x, args => if args.any isStar then none else
    match C.fns.lookup x with
    | some j => if args.isEmpty then none else (trA n C ((C.cah.lookup x).getD .no) 0 (C.cfz.contains x) args).map fun as => if C.bors.contains x then .bor (.call j as) else .call j as
    | none => match C.cls.lookup x with
      | some (c, j) => if args.isEmpty then none else (trA n C .no 0 false args).map (.new c j)
      | none => match args with
        | [a] =>
          if x = "sorted" then (match a with
            | .Call (.Name y _) [b] [] _ => if y = "set" && isGl C y && !isStar b then (trE n C .no false b).map .sset else none
            | _ => none)
          else match trE n C .no (decide (x = "tuple")) a with
            | some a' => if x = "len" then some (.len a') else if x = "list" then some (.list h.m a') else if x = "tuple" then some (.tuple a') else if x = "sum" then some (.sum a')
              else if x = "min" then some (.min1 a') else if x = "int" then some (.int a') else if x = "all" then some (.all a') else if x = "dict" then some (.mdict a') else none
            | none => none
        | [a, b] => if x = "min" then (match trE n C .no false a, trE n C .no false b with
            | some a', some b' => some (.min2 a' b')
            | _, _ => none)
          else if x = "isinstance" then (match b with
            | .Name t _ => if isGl C t then (match trE n C .no false a, tyNo t with
              | some a', some i => some (.isi a' i)
              | _, _ => none) else none
            | _ => none)
          else none
        | _ => none
/-- or, and: values -/
def trB : Nat → Ctx → Bool → List Expr → Option Ex
  | 0, _, _, _ => none
  | n + 1, C, or, es => match es with
    | [] => none
    | [a] => trE n C .no false a
    | a :: b :: r => match trE n C .no false a, trB n C or (b :: r) with
      | some a', some b' => some (if or then .or_ a' b' else .and_ a' b')
      | _, _ => none
/-- arguments, items -/
def trA : Nat → Ctx → Ht → Nat → Bool → List Expr → Option Ex
  | 0, _, _, _, _, _ => none
  | n + 1, C, h, i, esc, es => match es with
    | [] => some .nil
    | .Starred e _ :: r => match trE n C .no false e, trA n C h (i + 1) esc r with
      | some a, some b => some (.star a b)
      | _, _ => none
    | e :: r => match trE n C (h.kid i) esc e, trA n C h (i + 1) esc r with
      | some a, some b => some (.cons a b)
      | _, _ => none
def trO : Nat → Ctx → Option Expr → Option Ex
  | 0, _, _ => none
  | n + 1, C, o => match o with
    | none => some .noE
    | some e => (trE n C .no false e).map .tv
def trT : Nat → Ctx → Expr → Option Ex
  | 0, _, _ => none
  | n + 1, C, e => match e with
    | .UnaryOp .Not a _ => (trT n C a).map .tnot
    | .BoolOp .Or es _ => trU n C true es
    | .BoolOp .And es _ => trU n C false es
    | .Compare a [op] [b] _ => if behindInMarks op b then none else match trE n C .no false a, trE n C .no false b with
      | some a', some b' => some (.tv (.cmp op a' b'))
      | _, _ => none
    | .Compare a [op, op2] [b, c] _ => if lastMarks [op, op2] [b, c] then none else match trE n C .no false a, trE n C .no false b, trE n C .no false c with
      | some a', some b', some c' => some (.tv (.chain op op2 a' b' c'))
      | _, _, _ => none
    | e => if byVal e then (trE n C .no false e).map .tv else none
/-- or, and: tests -/
def trU : Nat → Ctx → Bool → List Expr → Option Ex
  | 0, _, _, _ => none
  | n + 1, C, or, es => match es with
    | [] => none
    | [a] => trT n C a
    | a :: b :: r => match trT n C a, trU n C or (b :: r) with
      | some a', some b' => some (if or then .tor a' b' else .tand a' b')
      | _, _ => none
def trF : Nat → Ctx → List Expr → Option Ex
  | 0, _, _ => none
  | n + 1, C, es => match es with
    | [] => some .noE
    | [t] => trT n C t
    | _ => none
/-- what a for walks -/
def trI : Nat → Ctx → Expr → Expr → Option Ex
  | 0, _, _, _ => none
  | n + 1, C, tg, it => match it with
    | .Call (.Name x p) [a] [] q =>
      if isStar a then none else if isGl C x && decide (x = "range") then (trE n C .no false a).map .iRan
      else if isGl C x && decide (x = "enumerate") then (if isTuple tg then (trE n C .no false a).map .iEnum else none)
      else if isGl C x && decide (x = "reversed") then (trE n C .no false a).map .iRev
      else (trE n C .no true (.Call (.Name x p) [a] [] q)).map .iSeq
    | .Call (.Name x p) [a, b] [] q =>
      if isStar a || isStar b then none else if isGl C x && decide (x = "range") then (match trE n C .no false a, trE n C .no false b with
        | some a', some b' => some (.iRan2 a' b')
        | _, _ => none)
      else if isGl C x && decide (x = "zip") then (if isTuple tg then (match trE n C .no false a, trE n C .no false b with
        | some a', some b' => some (.iZip a' b')
        | _, _ => none) else none)
      else (trE n C .no true (.Call (.Name x p) [a, b] [] q)).map .iSeq
    | e => (trE n C .no true e).map .iSeq
end
/-- may the value of this statement be a list comprehension that is stored on the way -/
def lcStore (C : Ctx) (x : Str) (p q : Pos) (scope : Scope) : Bool := decide (C.sc.kind = .function) && decide (C.sc.names.lookup x = some .local) && (p.line == q.line) && !(scope.names.any fun (n, k) => n == x && (k == .local || k == .cell))
/-- a slot that is put to rest ahead of a statement -/
def preF (C : Ctx) : Stmt → Option Nat
  | .Expr (.Call (.Attribute _ _ _) [.Name x _] [] _) _ => C.pfz.lookup x
  | .For (.Name x _) _ _ _ _ => C.pfz.lookup x
  | _ => none
def addF (C : Ctx) (s : Stmt) (a : Sx) : Sx := match preF C s with
  | some i => .seq (.frz i) a
  | none => a
mutual
def trS : Nat → Ctx → Stmt → Option Sx
  | 0, _, _ => none
  | n + 1, C, s => match s with
    | .Assign [.Name x p] e _ => match trG n C (.Name x p) with
      | some (.slot i) => (match trE n C ((C.mu.lookup i).getD .no) true e with
        | some e' => (match e with
          | .ListComp _ _ scope q => if (decide (C.sc.names.lookup x = some .cell)) || lcStore C x p q scope then some (.asg (.slot i) e') else none
          | .SetComp _ _ _ _ => none
          | .DictComp _ _ _ _ _ => none
          | _ => some (.asg (.slot i) e'))
        | none => none)
      | _ => none
    | .Assign [.Tuple ts k p] e _ => if isLc e || isTuple e then none else match trG n C (.Tuple ts k p), trE n C .no false e with
      | some g, some e' => some (.asg g e')
      | _, _ => none
    | .Assign [.Subscript a i _] e _ => if isLc e || isSlice i then none else match trE n C .no false e, trE n C .no false a, trE n C .no false i with
      | some e', some a', some i' => some (.seti a' i' e')
      | _, _, _ => none
    | .Assign [.Attribute a x _] e _ => if isLc e || !byBase a then none else match atNo x with
      | some i => (match trE n C ((C.sh.lookup i).getD .no) false e, trE n C .no false a with
        | some e', some a' => some (.seta a' i e')
        | _, _ => none)
      | none => none
    | .AugAssign (.Subscript a i _) .Add e _ => if isSlice i then none else match trE n C .no false a, trE n C .no false i, trE n C .no false e with
      | some a', some i', some e' => some (.augi a' i' e')
      | _, _, _ => none
    | .Expr e _ => if isLc e then none else (trE n C .no false e).map .drop
    | .Return (some e) _ => (trE n C C.rh true e).map .ret
    | .If t a b _ => match trT n C t, trSs n C a, trSs n C b with
      | some t', some a', some b' => some (.iff t' a' b')
      | _, _, _ => none
    | .For tg it b [] _ => if isSet it then none else match trG n C tg, trI n C tg it, trSs n C b with
      | some g, some i, some b' => some (.forr g i b')
      | _, _, _ => none
    | .While t b [] _ => match trT n C t, trSs n C b with
      | some t', some b' => some (.whil t' b')
      | _, _ => none
    | .Raise _ _ _ => some .rais
    | _ => none
def trSs : Nat → Ctx → List Stmt → Option Sx
  | 0, _, _ => none
  | n + 1, C, ss => match ss with
    | [] => some .skip
    | [s] => (trS n C s).map (addF C s)
    | s :: t :: r => match trS n C s, trSs n C (t :: r) with
      | some a, some b => some (.seq (addF C s a) b)
      | _, _ => none
end
end Ob
/-! part Od -/
/-! States: what is at rest (G), what stands (H), cells, slots; steps from state to state (Ext); contexts. -/
namespace Ob
open PySem L2

def CellAt (W : Wd) (G H : Hp) (p : Addr) : Cell → Prop
  | .lst ds => ∃ vs, H p = some (.lst vs) ∧ vs.length ≤ sizeLine ∧ DatL W G vs ds
  | .ins c fs => c < 4 ∧ ∃ dx vs, H p = some (.ins (W.cl c) dx vs) ∧ DatF W G vs fs
structure MuOk (W : Wd) (G H : Hp) (u : Mu) : Prop where
  nd : (adrs u).Nodup
  at_ : ∀ p c, (p, c) ∈ u → G p = none ∧ CellAt W G H p c
structure StA (W : Wd) (G H : Hp) (l : Dl) (u : Mu) (σ : L2.St) : Prop where
  sub : Same G H
  mu : MuOk W G H u
  len : σ.length = l.length
  sl : ∀ (i : Nat) (d : Dt), l[i]? = some (some d) → ∃ v, σ[i]? = some (some v) ∧ Dat W G v d
structure Ext (M M' : List Addr) (G H G' H' : Hp) : Prop where
  g : Same G G'
  s : Same G' H'
  new : ∀ a, G' a ≠ none → G a ≠ none ∨ H a = none ∨ a ∈ M
  fr : ∀ a o, H a = some o → a ∉ M → H' a = some o
  ad : ∀ p ∈ M', p ∈ M ∨ H p = none

section
variable {W : Wd} {G G' G1 H H' H1 : Hp} {l : Dl} {u u' : Mu} {σ : L2.St} {M M1 M' : List Addr}
theorem Ext.refl (s : Same G H) : Ext M M G H G H := ⟨Same.refl G, s, fun _ h => .inl h, fun _ _ h _ => h, fun _ h => .inl h⟩
theorem Ext.trans (a : Ext M M1 G H G1 H1) (b : Ext M1 M' G1 H1 G' H') : Ext M M' G H G' H' := by
  have back : ∀ p, H1 p = none → H p = none ∨ p ∈ M := fun p h => by
    cases e : H p with
    | none => exact .inl rfl
    | some o =>
      by_cases m : p ∈ M
      · exact .inr m
      · rw [a.fr p o e m] at h
        cases h
  refine ⟨a.g.trans b.g, b.s, fun p h => ?_, fun p o h m => ?_, fun p h => ?_⟩
  · rcases b.new p h with h | h | h
    · exact a.new p h
    · rcases back p h with h | h
      · exact .inr (.inl h)
      · exact .inr (.inr h)
    · rcases a.ad p h with h | h
      · exact .inr (.inr h)
      · exact .inr (.inl h)
  · have h1 := a.fr p o h m
    refine b.fr p o h1 fun z => ?_
    rcases a.ad p z with q | q
    · exact m q
    · rw [h] at q
      cases q
  · rcases b.ad p h with h | h
    · exact a.ad p h
    · rcases back p h with h | h
      · exact .inr h
      · exact .inl h
theorem CellAt.mono (g : Same G G') {p : Addr} {c : Cell} (h : CellAt W G H p c) : CellAt W G' H p c := by
  cases c with
  | lst ds =>
    obtain ⟨vs, h1, h2, h3⟩ := h
    exact ⟨vs, h1, h2, h3.mono g⟩
  | ins c fs =>
    obtain ⟨lc, dx, vs, h1, h2⟩ := h
    exact ⟨lc, dx, vs, h1, h2.mono g⟩
theorem CellAt.some_ {p : Addr} {c : Cell} (h : CellAt W G H p c) : ∃ o, H p = some o := by
  cases c with
  | lst ds =>
    obtain ⟨vs, h1, _⟩ := h
    exact ⟨_, h1⟩
  | ins c fs =>
    obtain ⟨_, dx, vs, h1, _⟩ := h
    exact ⟨_, h1⟩
theorem CellAt.heap {p : Addr} {c : Cell} (e : H' p = H p) (h : CellAt W G H p c) : CellAt W G H' p c := by
  cases c with
  | lst ds =>
    obtain ⟨vs, h1, h2⟩ := h
    exact ⟨vs, e.trans h1, h2⟩
  | ins c fs =>
    obtain ⟨lc, dx, vs, h1, h2⟩ := h
    exact ⟨lc, dx, vs, e.trans h1, h2⟩
theorem MuOk.get (m : MuOk W G H u) {p : Addr} {c : Cell} (h : get u p = some c) : G p = none ∧ CellAt W G H p c := m.at_ p c (get_mem h)
theorem MuOk.lst (m : MuOk W G H u) {p : Addr} {ds : List Dt} (h : Ob.get u p = some (.lst ds)) : ∃ vs, H p = some (.lst vs) ∧ vs.length ≤ sizeLine ∧ DatL W G vs ds := (m.get h).2
theorem MuOk.notG (m : MuOk W G H u) {p : Addr} (h : p ∈ adrs u) : G p = none := by
  obtain ⟨q, hq, e⟩ := List.mem_map.mp h
  obtain ⟨a, c⟩ := q
  cases e
  exact (m.at_ a c hq).1
theorem MuOk.inH (m : MuOk W G H u) {p : Addr} (h : p ∈ adrs u) : ∃ o, H p = some o := by
  obtain ⟨q, hq, e⟩ := List.mem_map.mp h
  obtain ⟨a, c⟩ := q
  cases e
  exact (m.at_ a c hq).2.some_
theorem same_new {p : Addr} {o : HO} (h : H p = none) : Same H (upd H p o) := fun b x e => by
  rw [upd_ne (ne_of_none e h)]
  exact e
theorem free_of (s : Same G H) {p : Addr} (h : H p = none) : G p = none := s.free h
/-- a new object that is at rest at once -/
theorem StA.made (S : StA W G H l u σ) {p : Addr} {o : HO} (hp : H p = none) : StA W (upd G p o) (upd H p o) l u σ ∧ Ext (adrs u) (adrs u) G H (upd G p o) (upd H p o) := by
  have gp : G p = none := free_of S.sub hp
  have s1 : Same (upd G p o) (upd H p o) := fun b x e => by
    by_cases q : b = p
    · subst q
      rw [upd_same] at e ⊢
      exact e
    · rw [upd_ne q] at e ⊢
      exact S.sub b x e
  refine ⟨⟨s1, ⟨S.mu.nd, fun q c hq => ?_⟩, S.len, fun i d h => ?_⟩, ⟨same_new gp, s1, fun a h => ?_, fun a x h _ => ?_, fun _ h => .inl h⟩⟩
  · obtain ⟨h1, h2⟩ := S.mu.at_ q c hq
    obtain ⟨x, hx⟩ := h2.some_
    have ne : q ≠ p := ne_of_none hx hp
    exact ⟨by rw [upd_ne ne]; exact h1, (h2.mono (same_new gp)).heap (upd_ne ne)⟩
  · obtain ⟨v, h1, h2⟩ := S.sl i d h
    exact ⟨v, h1, h2.mono (same_new gp)⟩
  · by_cases q : a = p
    · rw [q]
      exact .inr (.inl hp)
    · rw [upd_ne q] at h
      exact .inl h
  · rw [upd_ne (ne_of_none h hp)]
    exact h
/-- a new list that stays a cell -/
theorem StA.cell (S : StA W G H l u σ) {p : Addr} {vs : List V} {ds : List Dt} (hp : H p = none) (hn : vs.length ≤ sizeLine) (r : DatL W G vs ds) :
    p ∉ adrs u ∧ StA W G (upd H p (.lst vs)) l ((p, .lst ds) :: u) σ ∧ Ext (adrs u) (adrs ((p, .lst ds) :: u)) G H G (upd H p (.lst vs)) := by
  have gp : G p = none := free_of S.sub hp
  have np : p ∉ adrs u := fun z => by
    obtain ⟨o, ho⟩ := S.mu.inH z
    rw [hp] at ho
    cases ho
  have s1 : Same G (upd H p (.lst vs)) := S.sub.trans (same_new hp)
  refine ⟨np, ⟨s1, ⟨List.nodup_cons.mpr ⟨np, S.mu.nd⟩, fun q c hq => ?_⟩, S.len, S.sl⟩, ⟨Same.refl G, s1, fun a h => .inl h, fun a x h _ => ?_, fun q h => ?_⟩⟩
  · rcases List.mem_cons.mp hq with e | hq
    · cases e
      exact ⟨gp, vs, upd_same, hn, r⟩
    · obtain ⟨h1, h2⟩ := S.mu.at_ q c hq
      obtain ⟨x, hx⟩ := h2.some_
      exact ⟨h1, h2.heap (upd_ne (ne_of_none hx hp))⟩
  · rw [upd_ne (ne_of_none h hp)]
    exact h
  · rcases List.mem_cons.mp (show q ∈ p :: adrs u from h) with e | h
    · rw [e]
      exact .inr hp
    · exact .inl h
/-- a cell is written -/
theorem StA.wr (S : StA W G H l u σ) {p : Addr} {c : Cell} {o : HO} (hp : p ∈ adrs u) (hc : ∀ H', H' p = some o → CellAt W G H' p c) :
    StA W G (upd H p o) l (put u p c) σ ∧ Ext (adrs u) (adrs (put u p c)) G H G (upd H p o) := by
  have gp : G p = none := S.mu.notG hp
  have s1 : Same G (upd H p o) := fun b x e => by
    rw [upd_ne (ne_of_none e gp)]
    exact S.sub b x e
  refine ⟨⟨s1, ⟨by rw [adrs_put]; exact S.mu.nd, fun q d hq => ?_⟩, S.len, S.sl⟩, ⟨Same.refl G, s1, fun a h => .inl h, fun a x h m => ?_, fun q h => ?_⟩⟩
  · rcases mem_put S.mu.nd hq with ⟨e1, e2⟩ | ⟨e1, e2⟩
    · subst e1
      rw [e2]
      exact ⟨gp, hc _ upd_same⟩
    · obtain ⟨h1, h2⟩ := S.mu.at_ q d e2
      exact ⟨h1, h2.heap (upd_ne e1)⟩
  · have ne : a ≠ p := fun z => m (by rw [z]; exact hp)
    rw [upd_ne ne]
    exact h
  · rw [adrs_put] at h
    exact .inl h
/-- a cell is put to rest -/
theorem StA.rest (S : StA W G H l u σ) {p : Addr} {o : HO} (hp : p ∈ adrs u) (ho : H p = some o) :
    StA W (upd G p o) H l (del u p) σ ∧ Ext (adrs u) (adrs (del u p)) G H (upd G p o) H := by
  have gp : G p = none := S.mu.notG hp
  have g1 : Same G (upd G p o) := same_new gp
  have s1 : Same (upd G p o) H := fun b x e => by
    by_cases q : b = p
    · subst q
      rw [upd_same] at e
      cases e
      exact ho
    · rw [upd_ne q] at e
      exact S.sub b x e
  refine ⟨⟨s1, ⟨adrs_del_nd S.mu.nd, fun q d hq => ?_⟩, S.len, fun i d h => ?_⟩, ⟨g1, s1, fun a h => ?_, fun a x h m => h, fun q h => .inl (adrs_del_sub h)⟩⟩
  · obtain ⟨e1, e2⟩ := mem_del S.mu.nd hq
    obtain ⟨h1, h2⟩ := S.mu.at_ q d e2
    exact ⟨by rw [upd_ne e1]; exact h1, h2.mono g1⟩
  · obtain ⟨v, h1, h2⟩ := S.sl i d h
    exact ⟨v, h1, h2.mono g1⟩
  · by_cases q : a = p
    · rw [q]
      exact .inr (.inr hp)
    · rw [upd_ne q] at h
      exact .inl h
/-- a slot is set -/
theorem StA.set (S : StA W G H l u σ) {i : Nat} {v : V} {d : Dt} (h : Dat W G v d) : StA W G H (l.set i (some d)) u (σ.set i (some v)) := by
  refine ⟨S.sub, S.mu, by rw [List.length_set, List.length_set, S.len], fun j e hj => ?_⟩
  by_cases q : i = j
  · subst q
    by_cases lt : i < l.length
    · rw [List.getElem?_set_self lt] at hj
      cases hj
      exact ⟨v, List.getElem?_set_self (by rw [S.len]; exact lt), h⟩
    · rw [List.getElem?_eq_none (by rw [List.length_set]; omega)] at hj
      cases hj
  · rw [List.getElem?_set_ne q] at hj
    obtain ⟨w, h1, h2⟩ := S.sl j e hj
    exact ⟨w, by rw [List.getElem?_set_ne q]; exact h1, h2⟩
/-- behind a step the slots stand for what they stood for -/
theorem StA.step (S : StA W G H l u σ) (e : Ext M M' G H G' H') (m : MuOk W G' H' u') : StA W G' H' l u' σ :=
  ⟨e.s, m, S.len, fun i d h => let ⟨v, h1, h2⟩ := S.sl i d h; ⟨v, h1, h2.mono e.g⟩⟩

/-! ### reading -/
theorem seq_rd (s : Same G H) (m : MuOk W G H u) {x : V} {d : Dt} {ds : List Dt} (h : Dat W G x d) (e : seqOf u d = some ds) :
    ∃ a vs, x = .ref a ∧ (SqL W.K H a vs ∨ SqT W.K H a vs) ∧ vs.length ≤ sizeLine ∧ DatL W G vs ds := by
  cases h with
  | lst h n r =>
    cases e
    exact ⟨_, _, rfl, .inl (SqL.of (s _ _ h)), n, r⟩
  | tup h n r =>
    cases e
    exact ⟨_, _, rfl, .inr (SqT.of (s _ _ h)), n, r⟩
  | scr h n =>
    cases e
    exact ⟨_, _, rfl, .inl (s.seq h), by rw [List.length_map]; exact n, DatL.of_ints _⟩
  | adr p =>
    have e2 : (match Ob.get u p with
      | some (.lst ds) => some ds
      | _ => none) = some ds := e
    split at e2
    · rename_i es q
      cases e2
      obtain ⟨vs, h1, h2, h3⟩ := m.lst q
      exact ⟨_, vs, rfl, .inl (SqL.of h1), h2, h3⟩
    · cases e2
  | _ => cases e
theorem lst_rd (s : Same G H) (m : MuOk W G H u) {x : V} {d : Dt} {ds : List Dt} (h : Dat W G x d) (e : lstOf u d = some ds) :
    ∃ a vs, x = .ref a ∧ H a = some (.lst vs) ∧ vs.length ≤ sizeLine ∧ DatL W G vs ds := by
  cases h with
  | lst h n r =>
    cases e
    exact ⟨_, _, rfl, s _ _ h, n, r⟩
  | adr p =>
    have e2 : (match Ob.get u p with
      | some (.lst ds) => some ds
      | _ => none) = some ds := e
    split at e2
    · rename_i es q
      cases e2
      obtain ⟨vs, h1, h2, h3⟩ := m.lst q
      exact ⟨_, vs, rfl, h1, h2, h3⟩
    · cases e2
  | _ => cases e
theorem lst_seq {d : Dt} {ds : List Dt} (e : lstOf u d = some ds) : seqOf u d = some ds := by
  cases d <;> first | exact e | cases e
theorem lim_line : LIM ≤ sizeLine := by
  rw [sizeLine_eq]
  decide
theorem lim_le {n : Nat} (h : n ≤ LIM) : n ≤ sizeLine := Nat.le_trans h lim_line
theorem lim_lt {n : Nat} (h : n < LIM) : n < sizeLine := Nat.lt_of_lt_of_le h lim_line
end

/-! ### contexts -/
/-- what holds of the whole: the built-in names are free, the classes are plain -/
def freeNames : List Str := ["len", "list", "tuple", "sum", "min", "int", "all", "sorted", "set", "dict", "isinstance", "range", "enumerate", "zip", "reversed", "bool", "str"]
structure Wd.Ok (W : Wd) : Prop where
  free : ∀ x ∈ freeNames, W.mg x = none
  cls : ∀ c, c < 4 → Cls W.K (W.cl c)
  noat : ∀ c i, c < 4 → i < 11 → NoAttr W.K (W.cl c) (atn i)
/-- a def's promise, said of data -/
def spF (W : Wd) (S : FS) : Sp := fun vs H Q _ => ∃ G ds u K, Same G H ∧ DatL W G vs ds ∧ MuOk W G H u ∧ S ds u K ∧
  ∀ v d u' G' H', Ext (adrs u) (adrs u') G H G' H' → MuOk W G' H' u' → Dat W G' v d → K d u' → Q v H'
def FnAt (W : Wd) (k : Nat) (x : Str) (S : FS) : Prop := ∃ f fd ps, W.mg x = some (.ref f) ∧ PySem.W.keepIn W.K (.ref f) = true ∧ Binds W.K fd ps [] ∧ FnOk W.P W.w W.K W.mg W.base CX0 k f fd ps (spF W S)
def MtAt (W : Wd) (k : Nat) (m : Str) (c : Nat) (S : FS) : Prop := c < 4 ∧ ∃ f fd ps, Meth W.K (W.cl c) m f ∧ Binds W.K fd ps [] ∧ FnOk W.P W.w W.K W.mg W.base CX0 k f fd ps (spF W S)
def NwAt (W : Wd) (k : Nat) (x : Str) (c : Nat) (S : FS) : Prop := c < 4 ∧ ∃ f fd ps k', k' + 1 ≤ k ∧ W.mg x = some (.ref (W.cl c)) ∧ Mk W.K (W.cl c) f ∧ Binds W.K fd ps [] ∧ FnOk W.P W.w W.K W.mg W.base CX0 k' f fd ps (spF W S)
structure CtxOk (W : Wd) (k : Nat) (F : Nat → FS) (C : Ctx) : Prop where
  w : W.Ok
  nd : C.N.Nodup
  fns : ∀ x j, C.fns.lookup x = some j → FnAt W k x (F j)
  cls : ∀ x c j, C.cls.lookup x = some (c, j) → NwAt W k x c (F j)
  mth : ∀ m c j, C.mth.lookup m = some (c, j) → MtAt W k m c (F j)
  cst : ∀ x i, C.cst.lookup x = some i → ∃ t, W.mg x = some (.int i t)
theorem CtxOk.blk {W : Wd} {k : Nat} {F : Nat → FS} {C : Ctx} (h : CtxOk W k F C) (scope : Scope) : CtxOk W k F (C.blk scope) := ⟨h.w, h.nd, h.fns, h.cls, h.mth, h.cst⟩
/-- the code runs in such a context -/
structure InC (W : Wd) (k : Nat) (C : Ctx) (X : Cx) : Prop where
  N : X.N = C.N
  sc : X.env.scope = C.sc
  fn : ∀ x, C.fn x = true → X.fn x = true
  P : X.prog = W.P
  w : X.w = W.w
  K : X.K = W.K
  mg : X.mg = W.mg
  base : X.base = W.base
  calm : X.calm = true
  room : Room k X.A
  xe : X.xe = fun _ _ => False
theorem InC.blk {W : Wd} {k : Nat} {C : Ctx} {X : Cx} (h : InC W k C X) (s : Shared) (H : Hp) (scope : Scope) (cl : List (Str × Addr)) (c : Addr) (fp : List Addr) :
    InC W k (C.blk scope) (X.blk s H scope (compEnvC scope cl c X.env) fp) :=
  ⟨h.N, by show relS scope X.env.scope = relS scope C.sc; rw [h.sc], fun x e => e, h.P, h.w, h.K, h.mg, h.base, h.calm, h.room, rfl⟩

section
variable {W : Wd} {k : Nat} {C : Ctx}
def WE (W : Wd) (k : Nat) (C : Ctx) (e : Expr) : TE := fun σ H Q => ∃ t : TE, (∀ X, InC W k C X → PE X e t) ∧ t σ H Q
def WT (W : Wd) (k : Nat) (C : Ctx) (e : Expr) : TT := fun σ H Q => ∃ t : TT, (∀ X, InC W k C X → PT X e t) ∧ t σ H Q
def WU (W : Wd) (k : Nat) (C : Ctx) (e : Expr) : TT := fun σ H Q => ∃ t : TT, (∀ X, InC W k C X → PW X e t) ∧ t σ H Q
def WF (W : Wd) (k : Nat) (C : Ctx) (es : List Expr) : TT := fun σ H Q => ∃ t : TT, (∀ X, InC W k C X → PTs X es t) ∧ t σ H Q
def WA (W : Wd) (k : Nat) (C : Ctx) (es : List Expr) : TA := fun σ H Q => ∃ t : TA, (∀ X, InC W k C X → PA X es t) ∧ t σ H Q
def WO (W : Wd) (k : Nat) (C : Ctx) (e : Option Expr) : TO := fun σ H Q => ∃ t : TO, (∀ X, InC W k C X → PO X e t) ∧ t σ H Q
def WI (W : Wd) (k : Nat) (C : Ctx) (tg it : Expr) : TI := fun σ H R => ∃ t : TI, (∀ X, InC W k C X → PI X tg it t) ∧ t σ H R
def WG (W : Wd) (k : Nat) (C : Ctx) (e : Expr) : TG := fun v σ H Q => ∃ t : TG, (∀ X, InC W k C X → PG X e t) ∧ t v σ H Q
def WGs (W : Wd) (k : Nat) (C : Ctx) (es : List Expr) : TGs := fun v σ H Q => ∃ t : TGs, (∀ X, InC W k C X → PGs X es t) ∧ t v σ H Q
def WS (W : Wd) (k : Nat) (C : Ctx) (s : Stmt) : TS := fun D σ H => ∃ t : TS, (∀ X, InC W k C X → PS X s t) ∧ t D σ H
def WSs (W : Wd) (k : Nat) (C : Ctx) (s : List Stmt) : TS := fun D σ H => ∃ t : TS, (∀ X, InC W k C X → PSs X s t) ∧ t D σ H
variable {X : Cx} (hX : InC W k C X)
include hX
theorem pWE {e : Expr} : PE X e (WE W k C e) := ⟨fun pins s σ H Q I ⟨t, h, q⟩ => (h X hX).run pins s σ H Q I q⟩
theorem pWT {e : Expr} : PT X e (WT W k C e) := ⟨fun pins s σ H Q I ⟨t, h, q⟩ => (h X hX).run pins s σ H Q I q⟩
theorem pWU {e : Expr} : PW X e (WU W k C e) := ⟨fun wh pins s σ H Q I ⟨t, h, q⟩ => (h X hX).run wh pins s σ H Q I q⟩
theorem pWF {e : List Expr} : PTs X e (WF W k C e) := ⟨fun pins s σ H Q I ⟨t, h, q⟩ => (h X hX).run pins s σ H Q I q⟩
theorem pWA {e : List Expr} : PA X e (WA W k C e) := ⟨fun pos pins s σ H Q I ⟨t, h, q⟩ => (h X hX).run pos pins s σ H Q I q⟩
theorem pWO {e : Option Expr} : PO X e (WO W k C e) := ⟨fun pins s σ H Q I ⟨t, h, q⟩ => (h X hX).run pins s σ H Q I q⟩
theorem pWI {tg e : Expr} : PI X tg e (WI W k C tg e) := ⟨fun pins s σ H Q I ⟨t, h, q⟩ => (h X hX).run pins s σ H Q I q⟩
theorem pWG {e : Expr} : PG X e (WG W k C e) := ⟨fun pins s σ H D v u I r ⟨t, h, q⟩ => (h X hX).run pins s σ H D v u I r q⟩
theorem pWGs {e : List Expr} : PGs X e (WGs W k C e) := ⟨fun pins s σ H D v u I r ⟨t, h, q⟩ => (h X hX).run pins s σ H D v u I r q⟩
theorem pWS {e : Stmt} : PS X e (WS W k C e) := ⟨fun pins s σ H D I ⟨t, h, q⟩ => (h X hX).run pins s σ H D I q⟩
theorem pWSs {e : List Stmt} : PSs X e (WSs W k C e) := ⟨fun pins s σ H D I ⟨t, h, q⟩ => (h X hX).run pins s σ H D I q⟩
end
end Ob
/-! part Oe -/
/-! Operations by values: what the short text says of data holds of the values that stand for them. -/
namespace Ob
open PySem L2

/-! ### arguments without a star -/
theorem star_no {e : Expr} (h : isStar e = false) (es : List Expr) (env : Env) : starEach (e :: es) env = (false, eval e env) :: starEach es env := by
  cases e <;> first | rfl | cases h
theorem star_all : ∀ {es : List Expr}, es.any isStar = false → ∀ (pos : Pos) (env : Env), (backTo pos (starEach es env)).any (·.1) = false
  | [], _, _, _ => rfl
  | e :: es, h, pos, env => by
    rw [List.any_cons, Bool.or_eq_false_iff] at h
    rw [star_no h.1]
    show (false || (backTo pos (starEach es env)).any (·.1)) = false
    rw [star_all h.2]
    rfl

/-! ### a list or a tuple walked -/
def iAny (K : PySem.W.Frag) (tl : TE) : TI := fun σ H R => tl σ H fun x H1 => ∃ a, x = .ref a ∧ (((∃ xs, SqL K H1 a xs) ∧ R (Itl K a) H1) ∨ ((∃ xs, SqT K H1 a xs) ∧ R (Itt K a) H1))
theorem pi_any {X : Cx} {tg l : Expr} {tl : TE} (hl : PE X l tl) : PI X tg l (iAny X.K tl) := by
  constructor
  intro pins s σ H R I h
  refine thn (hl.run pins s σ H _ I h) fun v s1 hv => ?_
  obtain ⟨x, H1, I1, r1, a, rfl, q⟩ := hv
  obtain rfl : v = Value.ref a := r1
  rcases q with ⟨⟨xs, hq⟩, q⟩ | ⟨⟨xs, hq⟩, q⟩
  · obtain ⟨its, _, p, _⟩ := I1.list hq
    exact wpAny_pyIter_list p.isList (pi_one (tk := s1.toks) I1 _ (turn_list a _) ⟨_, Heap.get?_push_size _ rfl, rfl, rfl⟩ q)
  · obtain ⟨its, _, p, _⟩ := I1.tuple hq
    exact wpAny_pyIter_tuple (show s1.heap.IsTuple a its.toArray from p) (pi_one (tk := s1.toks) I1 _ (turn_tuple a _) ⟨_, Heap.get?_push_size _ rfl, rfl, rfl⟩ q)

/-! ### xs[i] read for xs[i] += e -/
def rGetL (K : PySem.W.Frag) : V → V → Hp → VK → Prop := fun x y H Q => ∃ p xs i j v, x = .ref p ∧ y = .int i ∧ SqL K H p xs ∧ ixN xs.length i = some j ∧ xs[j]? = some v ∧ Q v H
theorem get_list {X : Cx} : PGet X (rGetL X.K) := by
  intro pins s σ H x y ov iv Q I rx ry h
  obtain ⟨p, xs, i, j, v, rfl, rfl, hq, hj, hv, q⟩ := h
  obtain rfl : ov = Value.ref p := rx
  obtain ⟨t, rfl⟩ := ry
  obtain ⟨its, r, pl, hz⟩ := I.list hq
  obtain ⟨w, ew, rw'⟩ := r.get hv
  have hl := r.length
  have hn := line63
  have fin : EP X pins σ Q w s := ⟨v, H, I, rw', q⟩
  unfold ixN at hj
  by_cases h0 : 0 ≤ i
  · rw [if_pos h0] at hj
    by_cases h1 : i < (xs.length : Int)
    · rw [if_pos h1] at hj
      have e : i.toNat = j := Option.some.inj hj
      refine thn (wpAny_getItem_list (Q := fun r s' => r = w ∧ EP X pins σ Q r s') pl.isList h0 (by omega) (by rw [e]; simpa using ew) ⟨rfl, fin⟩) fun _ _ z => z.2
    · rw [if_neg h1] at hj
      cases hj
  · rw [if_neg h0] at hj
    by_cases h1 : -(xs.length : Int) ≤ i
    · rw [if_pos h1] at hj
      have e : (i + (xs.length : Int)).toNat = j := Option.some.inj hj
      refine thn (wpAny_getItem_list_neg (Q := fun r s' => r = w ∧ EP X pins σ Q r s') pl.isList (by omega) (by rw [List.size_toArray]; omega) (by omega) (by rw [List.size_toArray, ← hl, e]; simpa using ew) ⟨rfl, fin⟩) fun _ _ z => z.2
    · rw [if_neg h1] at hj
      cases hj

/-! ### comparisons -/
theorem eqS_ok {W : Wd} {G : Hp} {x y : V} {d e : Dt} {b : Bool} (hx : Dat W G x d) (hy : Dat W G y e) (h : eqS d e = some b) : scal x y = true ∧ decide (x = y) = b := by
  cases hx <;> cases hy <;> first
    | (cases h; exact ⟨rfl, rfl⟩)
    | (have h2 := Option.some.inj h; refine ⟨rfl, ?_⟩; rw [← h2, decide_eq_decide]; constructor <;> (intro z; cases z; rfl))
    | cases h
theorem isN_ok {W : Wd} {G : Hp} {x : V} {d : Dt} (hx : Dat W G x d) : decide (x = V.non) = isN d := by
  cases hx <;> rfl
theorem flat_ok {W : Wd} {G : Hp} {x : V} {d : Dt} (hx : Dat W G x d) (h : flat d = true) : flatV x = true := by
  cases hx <;> first | rfl | cases h
theorem eqV_ok {W : Wd} {G : Hp} {x y : V} {d e : Dt} (hx : Dat W G x d) (hy : Dat W G y e) (h1 : flat d = true) (h2 : flat e = true) : eqV x y = eqF d e := by
  cases hx <;> cases hy <;> first
    | (cases h1; done)
    | (cases h2; done)
    | rfl
    | (show ((_ : Int) == _) = decide _; exact Bool.beq_eq_decide_eq _ _)
theorem flats_ok {W : Wd} {G : Hp} : ∀ {vs : List V} {ds : List Dt}, DatL W G vs ds → ds.all flat = true → vs.all flatV = true
  | _, _, .nil, _ => rfl
  | _, _, .cons h r, a => by
    rw [List.all_cons, Bool.and_eq_true] at a ⊢
    exact ⟨flat_ok h a.1, flats_ok r a.2⟩
theorem any_ok {W : Wd} {G : Hp} {x : V} {d : Dt} (hx : Dat W G x d) (fx : flat d = true) : ∀ {vs : List V} {ds : List Dt}, DatL W G vs ds → ds.all flat = true → (vs.any fun y => eqV y x) = ds.any fun e => eqF e d
  | _, _, .nil, _ => rfl
  | _, _, .cons h r, a => by
    rw [List.all_cons, Bool.and_eq_true] at a
    rw [List.any_cons, List.any_cons, eqV_ok h hx a.1 fx, any_ok hx fx r a.2]
/-- a move as data of the library -/
def mvP (m : Mv) : PyData := .tuple [.int m.1, .tuple (m.2.1.map .int), .int m.2.2]
theorem ints_lay : ∀ ns : List Int, PyData.canLayAll0 (ns.map .int) = true
  | [] => by simp [PyData.canLayAll0]
  | n :: ns => by simp [PyData.canLayAll0, PyData.canLay0, ints_lay ns]
theorem ints_dep : ∀ ns : List Int, PyData.depthAll (ns.map .int) = 0
  | [] => by simp [PyData.depthAll]
  | n :: ns => by simp [PyData.depthAll, PyData.depth, ints_dep ns]
theorem mvP_lay (m : Mv) : (mvP m).canLay0 = true := by simp [mvP, PyData.canLay0, PyData.canLayAll0, ints_lay]
theorem mvP_dep (m : Mv) : (mvP m).depth = 2 := by simp [mvP, PyData.depth, PyData.depthAll, ints_dep]
theorem mvP_shaped (m : Mv) : SeqAt.shaped (mvP m) = true := by
  show ((mvP m).canLay0 && decide ((mvP m).depth ≤ 64)) = true
  rw [mvP_lay, mvP_dep]
  rfl
theorem mvPs_lay : ∀ ms : List Mv, PyData.canLayAll0 (ms.map mvP) = true
  | [] => by simp [PyData.canLayAll0]
  | m :: ms => by simp [PyData.canLayAll0, mvP_lay m, mvPs_lay ms]
theorem mvPs_dep : ∀ ms : List Mv, PyData.depthAll (ms.map mvP) ≤ 2
  | [] => by simp [PyData.depthAll]
  | m :: ms => by
    have h1 := mvPs_dep ms
    have h2 := mvP_dep m
    simp only [List.map_cons, PyData.depthAll]
    omega
theorem mvPs_shaped (ms : List Mv) : SeqAt.shaped (.list (ms.map mvP)) = true := by
  have h1 := mvPs_dep ms
  have h2 : PyData.depth (.list (ms.map mvP)) ≤ 64 := by
    simp only [PyData.depth]
    omega
  show (PyData.canLay0 (.list (ms.map mvP)) && decide (PyData.depth (.list (ms.map mvP)) ≤ 64)) = true
  rw [decide_eq_true h2, Bool.and_true]
  simp only [PyData.canLay0]
  exact mvPs_lay ms
theorem eqvAll_ints : ∀ xs ys : List Int, PyData.eqvAll (xs.map .int) (ys.map .int) = decide (xs = ys)
  | [], [] => by simp [PyData.eqvAll]
  | [], _ :: _ => by simp [PyData.eqvAll]
  | _ :: _, [] => by simp [PyData.eqvAll]
  | x :: xs, y :: ys => by
    simp only [List.map_cons, PyData.eqvAll, PyData.eqv, eqvAll_ints xs ys]
    by_cases h : x = y <;> by_cases h2 : xs = ys <;> simp [h, h2]
theorem mvP_eqv (m k : Mv) : PyData.eqv (mvP m) (mvP k) = decide (m = k) := by
  obtain ⟨a, b, c⟩ := m
  obtain ⟨a', b', c'⟩ := k
  have e : PyData.eqv (mvP (a, b, c)) (mvP (a', b', c')) = ((a == a') && (PyData.eqvAll (b.map .int) (b'.map .int) && ((c == c') && true))) := by simp only [mvP, PyData.eqv, PyData.eqvAll]
  rw [e, eqvAll_ints]
  by_cases h1 : a = a' <;> by_cases h2 : b = b' <;> by_cases h3 : c = c' <;> simp [h1, h2, h3]
theorem dp_ints {W : Wd} {G H : Hp} {K : PySem.W.Frag} : ∀ {ns : List Int} {vs : List V}, DatL W G vs (ns.map .int) → DpAll K H vs (ns.map .int)
  | [], _, .nil => .nil
  | n :: ns, _, .cons h r => by
    cases h
    exact .cons (.int n) (dp_ints r)
theorem dp_mv {W : Wd} {G H : Hp} {K : PySem.W.Frag} (s : Same G H) {x : V} {m : Mv} (h : Dat W G x (mvD m)) : Dp K H x (mvP m) := by
  cases h with
  | tup h n r =>
    cases r with
    | cons h1 r =>
      cases r with
      | cons h2 r =>
        cases r with
        | cons h3 r =>
          cases r
          cases h1
          cases h3
          cases h2 with
          | tup g gn gr => exact .tup (SqT.of (s _ _ h)) (.cons (.int _) (.cons (.tup (SqT.of (s _ _ g)) (dp_ints gr)) (.cons (.int _) .nil)))
theorem dp_mvs {W : Wd} {G H : Hp} {K : PySem.W.Frag} (s : Same G H) : ∀ {ms : List Mv} {vs : List V}, DatL W G vs (ms.map mvD) → DpAll K H vs (ms.map mvP)
  | [], _, .nil => .nil
  | m :: ms, _, .cons h r => .cons (dp_mv s h) (dp_mvs s r)
theorem mv_at {W : Wd} {G H : Hp} (s : Same G H) {x : V} {m : Mv} (h : Dat W G x (mvD m)) : ∃ q, x = .ref q ∧ MvAt H q m := by
  cases h with
  | tup h n r =>
    cases r with
    | cons h1 r =>
      cases r with
      | cons h2 r =>
        cases r with
        | cons h3 r =>
          cases r
          cases h1
          cases h3
          cases h2 with
          | @tup c vs ds g gn gr =>
            have e := gr.ints
            subst e
            exact ⟨_, rfl, c, s _ _ h, s _ _ g, by simpa using gn⟩
theorem anyMv : ∀ (ms : List Mv) (m : Mv), ((ms.map mvP).any fun z => PyData.eqv z (mvP m)) = decide (m ∈ ms)
  | [], m => by simp
  | k :: ms, m => by
    rw [List.map_cons, List.any_cons, mvP_eqv, anyMv ms m]
    by_cases h1 : k = m
    · rw [h1]
      simp
    · have h2 : ¬ m = k := fun e => h1 e.symm
      simp [h1, h2]

/-- k in d, k not in d: d a dict of moves -/
def rInK (W : Wd) (neg : Bool) : R2 := fun x y H Q => ∃ q a xs m, x = .ref q ∧ y = .ref a ∧ MvAt H q m ∧ H a = some (KeyO W a xs) ∧ (∀ e ∈ xs, MvAt H e.2.1 e.1) ∧ Q (.bl (if neg then !decide (m ∈ xs.map (·.1)) else decide (m ∈ xs.map (·.1)))) H
theorem nested_nums {h : Heap} : ∀ {ns : List Int} {us : List Value}, Vals (ns.map V.int) us → NestedAll h (ns.map .num) us
  | [], _, r => by
    cases r
    exact .nil
  | n :: ns, _, r => by
    cases r with
    | cons r t =>
      obtain ⟨t0, rfl⟩ := r
      exact .cons (.int _ _) (nested_nums t)
theorem depth_nums : ∀ ns : List Int, NestedKey.depthAll (ns.map .num) ≤ 1
  | [] => by simp [NestedKey.depthAll]
  | n :: ns => by
    have := depth_nums ns
    simp [NestedKey.depthAll, NestedKey.depth]
    omega
theorem mvK_depth (m : Mv) : (mvK m).depth ≤ 8 := by
  have := depth_nums m.2.1
  unfold mvK
  simp [NestedKey.depthAll, NestedKey.depth]
  omega
theorem nested_of {X : Cx} {pins : List (Addr × Obj)} {σ : L2.St} {H : Hp} {s : Shared} (I : Inv X pins σ H s) {q : Addr} {m : Mv} (h : MvAt H q m) : NestedIs s.heap (mvK m) (.ref q) := by
  obtain ⟨c, h1, h2, h3⟩ := h
  obtain ⟨its, r, ⟨o, ho, hc, n, hd⟩, _⟩ := I.tuple (SqT.of h1)
  obtain ⟨its2, r2, ⟨o2, ho2, hc2, n2, hd2⟩, _⟩ := I.tuple (SqT.of h2)
  refine .tup ho hc hd ?_
  show NestedAll s.heap [.num m.1, .tup (m.2.1.map .num), .num m.2.2] its
  cases r with
  | cons r1 r =>
    cases r with
    | cons r2' r =>
      cases r with
      | cons r3 r =>
        cases r
        obtain ⟨t1, rfl⟩ := r1
        cases r2'
        obtain ⟨t3, rfl⟩ := r3
        exact .cons (.int _ _) (.cons (.tup ho2 hc2 hd2 (nested_nums r2)) (.cons (.int _ _) .nil))
theorem num_inj : ∀ {a b : List Int}, a.map NestedKey.num = b.map NestedKey.num → a = b
  | [], [], _ => rfl
  | [], _ :: _, h => by cases h
  | _ :: _, [], h => by cases h
  | x :: a, y :: b, h => by
    simp only [List.map_cons, List.cons.injEq, NestedKey.num.injEq] at h
    rw [h.1, num_inj h.2]
theorem mvK_inj {a b : Mv} (h : mvK a = mvK b) : a = b := by
  unfold mvK at h
  simp only [NestedKey.tup.injEq, List.cons.injEq, NestedKey.num.injEq, and_true] at h
  obtain ⟨h1, h2, h3⟩ := h
  refine Prod.ext h1 (Prod.ext ?_ h3)
  exact num_inj h2
theorem nodup_map {α β : Type} {f : α → β} (h : ∀ a b, f a = f b → a = b) : ∀ {xs : List α}, xs.Nodup → (xs.map f).Nodup
  | [], _ => List.nodup_nil
  | x :: xs, nd => by
    obtain ⟨n1, n2⟩ := List.nodup_cons.mp nd
    refine List.nodup_cons.mpr ⟨fun hm => ?_, nodup_map h n2⟩
    obtain ⟨y, hy, e⟩ := List.mem_map.mp hm
    exact n1 (by rw [← h _ _ e]; exact hy)
theorem dict_of {W : Wd} {X : Cx} (hP : X.prog = W.P) (hw : X.w = W.w) {pins : List (Addr × Obj)} {σ : L2.St} {H : Hp} {s : Shared} (I : Inv X pins σ H s) {a : Addr} {xs : List Ent} (ha : H a = some (KeyO W a xs)) (hx : ∀ e ∈ xs, MvAt H e.2.1 e.1) :
    (a == sysModules) = false ∧ s.heap.DictOfH (nestedKind X.prog X.w) a (xs.map fun x => (mvK x.1, x.2)) := by
  have ok : ObjOk X.prog X.w H s.heap a (KeyO W a xs) := I.hok a _ ha
  obtain ⟨⟨h1, o, es, ep, h2, h3, h4, h5, h6⟩, _⟩ := ok
  refine ⟨h1, o, es, ep, h2, h3, h4, by rw [hP, hw]; exact h5, ?_, ?_⟩
  · intro x hx'
    obtain ⟨e, he, rfl⟩ := List.mem_map.mp hx'
    exact ⟨nested_of I (hx e he), mvK_depth _⟩
  · rw [List.map_map]
    have e : (Prod.fst ∘ fun x : Ent => (mvK x.1, x.2)) = mvK ∘ fun x : Ent => x.1 := rfl
    rw [e, ← List.map_map]
    exact nodup_map (fun a b h => mvK_inj h) h6
theorem at_mem {xs : List Ent} {m : Mv} : (atKey (xs.map fun x => (mvK x.1, x.2)) (mvK m)).isSome = decide (m ∈ xs.map (·.1)) := by
  unfold atKey
  rw [Option.isSome_map]
  induction xs with
  | nil => rfl
  | cons x xs ih =>
    rw [List.map_cons, List.find?_cons]
    by_cases e : x.1 = m
    · have e2 : decide ((mvK x.1, x.2).1 = mvK m) = true := decide_eq_true (by rw [e])
      rw [e2]
      simp [e]
    · have e2 : decide ((mvK x.1, x.2).1 = mvK m) = false := decide_eq_false (fun h => e (mvK_inj h))
      rw [e2]
      simp only
      rw [ih]
      have e3 : ¬ m = x.1 := fun h => e h.symm
      simp [e3]
theorem op_inK {W : Wd} {X : Cx} (hP : X.prog = W.P) (hw : X.w = W.w) (hu : X.A.units + 65 < cLine) : OpR X (compareOp .In) (rInK W false) := by
  intro pins s σ H x y v u Q I rx ry h
  obtain ⟨q, a, xs, m, rfl, rfl, hm, ha, hx, k⟩ := h
  cases rx
  cases ry
  obtain ⟨h1, h2⟩ := dict_of hP hw I ha hx
  refine wpAny_in_heap (knd := nestedKind X.prog X.w) (by show X.A.in1.units + 8 < cLine; simp only [Around.in1_units]; omega) ⟨nested_of I hm, mvK_depth m⟩ h1 h2 ?_
  rw [at_mem]
  exact ⟨.bl _, H, I.tok _, rfl, k⟩
theorem op_notInK {W : Wd} {X : Cx} (hP : X.prog = W.P) (hw : X.w = W.w) (hu : X.A.units + 65 < cLine) : OpR X (compareOp .NotIn) (rInK W true) := by
  intro pins s σ H x y v u Q I rx ry h
  obtain ⟨q, a, xs, m, rfl, rfl, hm, ha, hx, k⟩ := h
  cases rx
  cases ry
  obtain ⟨h1, h2⟩ := dict_of hP hw I ha hx
  refine notIn_keyed (knd := nestedKind X.prog X.w) (kvs := pairsH (xs.map fun x => (mvK x.1, x.2))) (by show X.A.in1.units + 8 < cLine; simp only [Around.in1_units]; omega) ⟨nested_of I hm, mvK_depth m⟩ h1 ⟨_, h2, rfl⟩ ?_
  rw [valueAt_pairsH, Option.isSome_map, at_mem]
  exact ⟨.bl _, H, I.tok _, rfl, k⟩

section
variable {W : Wd} {k : Nat} {C : Ctx} {G H : Hp} {u : Mu}
theorem InC.u65 {X : Cx} (h : InC W k C X) : X.A.units + 65 < cLine := by
  have := h.room.un
  omega
/-- what is asked of in, not in -/
theorem inS_ok (s : Same G H) (m : MuOk W G H u) {x y : V} {d e : Dt} {b : Bool} {neg : Bool} {Q : VK} (hx : Dat W G x d) (hy : Dat W G y e) (h : inS u d e = some b) (q : Q (.bl (if neg then !b else b)) H) :
    (rIn W.K neg x y H Q ∨ (if neg then rNotInD W.K x y H Q else rInD W.K x y H Q)) ∨ rInK W neg x y H Q := by
  have flt : ∀ ds, seqOf u e = some ds → (flat d && ds.all flat) = true → b = (ds.any fun z => eqF z d) → rIn W.K neg x y H Q := by
    intro ds hs hf hb
    rw [Bool.and_eq_true] at hf
    obtain ⟨a, vs, rfl, hsq, _, r⟩ := seq_rd s m hy hs
    refine ⟨a, vs, rfl, hsq, flat_ok hx hf.1, flats_ok r hf.2, ?_⟩
    have e1 : inV x vs = b := by
      rw [hb]
      exact any_ok hx hf.1 r hf.2
    rw [e1]
    exact q
  unfold inS at h
  split at h
  · rename_i ts ms
    cases hm : mvOf (.tup ts) with
    | none =>
      rw [hm] at h
      cases h
    | some k =>
      rw [hm] at h
      have hb : decide (k ∈ ms) = b := Option.some.inj h
      have ek := mvOf_eq hm
      rw [ek] at hx
      obtain ⟨q', rfl, hq⟩ := mv_at s hx
      cases hy with
      | keys g kk r =>
        refine .inr ⟨q', _, _, k, rfl, rfl, hq, s _ _ g, fun z hz => (r z hz).mono s, ?_⟩
        rw [kk, hb]
        exact q
  · rename_i ts ds
    cases hm : mvOf (.tup ts) with
    | none =>
      rw [hm] at h
      cases h
    | some k =>
      cases hn : mvsOf ds with
      | none =>
        rw [hm, hn] at h
        cases h
      | some ms =>
        rw [hm, hn] at h
        have hb : decide (k ∈ ms) = b := Option.some.inj h
        have ek := mvOf_eq hm
        rw [ek] at hx
        rw [mvsOf_eq hn] at hy
        cases hy with
        | lst g gn r =>
          have dx : Dp W.K H x (mvP k) := dp_mv s hx
          have dy : Dp W.K H (.ref _) (.list (ms.map mvP)) := .lst (SqL.of (s _ _ g)) (dp_mvs s r)
          refine .inl (.inr ?_)
          cases neg with
          | false =>
            refine ⟨_, _, dx, dy, mvP_shaped k, mvPs_shaped ms, ?_⟩
            rw [anyMv, hb]
            exact q
          | true =>
            refine ⟨_, _, dx, dy, mvP_shaped k, mvPs_shaped ms, ?_⟩
            rw [anyMv, hb]
            exact q
  · cases h
  · rename_i n1 n2
    split at h
    · rename_i ds hs
      by_cases hf : (flat d && ds.all flat) = true
      · rw [if_pos hf] at h
        exact .inl (.inl (flt ds hs hf (Option.some.inj h).symm))
      · rw [if_neg hf] at h
        cases h
    · cases h
theorem cmp_ok (op : CmpOp) : ∃ r : R2, (∀ X, InC W k C X → OpR X (compareOp op) r) ∧
    ∀ {G H : Hp} {u : Mu} {x y : V} {d e : Dt} {b : Bool} {Q : VK}, Same G H → MuOk W G H u → Dat W G x d → Dat W G y e → cmpS u op d e = some b → Q (.bl b) H → r x y H Q := by
  cases op with
  | Eq =>
    refine ⟨rEq, fun X _ => op_eq, fun s m hx hy h q => ?_⟩
    obtain ⟨h1, h2⟩ := eqS_ok hx hy h
    exact ⟨h1, by rw [h2]; exact q⟩
  | NotEq =>
    refine ⟨rNe, fun X _ => op_ne, fun {G H u x y d e b Q} s m hx hy h q => ?_⟩
    have h' : (eqS d e).map Bool.not = some b := h
    cases ee : eqS d e with
    | none =>
      rw [ee] at h'
      cases h'
    | some c =>
      rw [ee] at h'
      cases h'
      obtain ⟨h1, h2⟩ := eqS_ok hx hy ee
      exact ⟨h1, by rw [h2]; exact q⟩
  | Lt =>
    refine ⟨_, fun X _ => op_lt, fun s m hx hy h q => ?_⟩
    cases hx <;> cases hy <;> first | cases h | skip
    exact ⟨_, _, rfl, rfl, q⟩
  | LtE =>
    refine ⟨_, fun X _ => op_le, fun s m hx hy h q => ?_⟩
    cases hx <;> cases hy <;> first | cases h | skip
    exact ⟨_, _, rfl, rfl, q⟩
  | Gt =>
    refine ⟨_, fun X _ => op_gt, fun s m hx hy h q => ?_⟩
    cases hx <;> cases hy <;> first | cases h | skip
    exact ⟨_, _, rfl, rfl, q⟩
  | GtE =>
    refine ⟨_, fun X _ => op_ge, fun s m hx hy h q => ?_⟩
    cases hx <;> cases hy <;> first | cases h | skip
    exact ⟨_, _, rfl, rfl, q⟩
  | Is =>
    refine ⟨_, fun X _ => op_isN, fun {G H u x y d e b Q} s m hx hy h q => ?_⟩
    cases hy <;> first | (exfalso; cases hx <;> cases h; done) | skip
    have h2 : isN d = b := Option.some.inj (by cases hx <;> exact h)
    exact ⟨rfl, by rw [isN_ok hx, h2]; exact q⟩
  | IsNot =>
    refine ⟨_, fun X _ => op_notN, fun {G H u x y d e b Q} s m hx hy h q => ?_⟩
    cases hy <;> first | (exfalso; cases hx <;> cases h; done) | skip
    have h2 : (!isN d) = b := Option.some.inj (by cases hx <;> exact h)
    exact ⟨rfl, by rw [isN_ok hx, h2]; exact q⟩
  | In =>
    refine ⟨fun x y H Q => (rIn W.K false x y H Q ∨ rInD W.K x y H Q) ∨ rInK W false x y H Q, fun X hX => ?_, fun {G H u x y d e b Q} s m hx hy h q => ?_⟩
    · rw [← hX.K]
      exact (op_in_seq.or (op_inD hX.u65)).or (op_inK hX.P hX.w hX.u65)
    · have h2 : inS u d e = some b := by cases hx <;> exact h
      have := inS_ok (neg := false) s m hx hy h2 q
      exact this
  | NotIn =>
    refine ⟨fun x y H Q => (rIn W.K true x y H Q ∨ rNotInD W.K x y H Q) ∨ rInK W true x y H Q, fun X hX => ?_, fun {G H u x y d e b Q} s m hx hy h q => ?_⟩
    · rw [← hX.K]
      exact (op_notIn_seq.or (op_notInD hX.u65)).or (op_notInK hX.P hX.w hX.u65)
    · have h2 : (inS u d e).map Bool.not = some b := by cases hx <;> exact h
      cases ee : inS u d e with
      | none =>
        rw [ee] at h2
        cases h2
      | some c =>
        rw [ee] at h2
        cases h2
        have := inS_ok (neg := true) (b := c) (Q := Q) s m hx hy ee q
        exact this
end
end Ob
/-! part Of1 -/
/-! What is wanted behind a step, and the operations once more, said of states. -/
namespace Ob
open PySem L2

section
variable {W : Wd} {k : Nat} {C : Ctx}
def Cont (W : Wd) (l : Dl) (σ : L2.St) (u : Mu) (G H : Hp) (K : Dt → Mu → Prop) (Q : VK) : Prop := ∀ v d u' G' H', Ext (adrs u) (adrs u') G H G' H' → StA W G' H' l u' σ → Dat W G' v d → K d u' → Q v H'
def ContL (W : Wd) (l : Dl) (σ : L2.St) (u : Mu) (G H : Hp) (K : List Dt → Mu → Prop) (Q : List V → Hp → Prop) : Prop := ∀ vs ds u' G' H', Ext (adrs u) (adrs u') G H G' H' → StA W G' H' l u' σ → DatL W G' vs ds → K ds u' → Q vs H'
def ContB (W : Wd) (l : Dl) (σ : L2.St) (u : Mu) (G H : Hp) (K : Bool → Mu → Prop) (Q : Bool → Hp → Prop) : Prop := ∀ b u' G' H', Ext (adrs u) (adrs u') G H G' H' → StA W G' H' l u' σ → K b u' → Q b H'
def ContO (W : Wd) (l : Dl) (σ : L2.St) (u : Mu) (G H : Hp) (K : Option Int → Mu → Prop) (Q : Option Int → Hp → Prop) : Prop := ∀ b u' G' H', Ext (adrs u) (adrs u') G H G' H' → StA W G' H' l u' σ → K b u' → Q b H'
variable {l : Dl} {σ : L2.St} {u u1 : Mu} {G G1 H H1 : Hp}
theorem Cont.tr {K : Dt → Mu → Prop} {Q : VK} (c : Cont W l σ u G H K Q) (e : Ext (adrs u) (adrs u1) G H G1 H1) : Cont W l σ u1 G1 H1 K Q := fun v d u' G' H' e2 S D k => c v d u' G' H' (e.trans e2) S D k
theorem ContL.tr {K : List Dt → Mu → Prop} {Q : List V → Hp → Prop} (c : ContL W l σ u G H K Q) (e : Ext (adrs u) (adrs u1) G H G1 H1) : ContL W l σ u1 G1 H1 K Q := fun v d u' G' H' e2 S D k => c v d u' G' H' (e.trans e2) S D k
theorem ContB.tr {K : Bool → Mu → Prop} {Q : Bool → Hp → Prop} (c : ContB W l σ u G H K Q) (e : Ext (adrs u) (adrs u1) G H G1 H1) : ContB W l σ u1 G1 H1 K Q := fun v u' G' H' e2 S k => c v u' G' H' (e.trans e2) S k
theorem ContO.tr {K : Option Int → Mu → Prop} {Q : Option Int → Hp → Prop} (c : ContO W l σ u G H K Q) (e : Ext (adrs u) (adrs u1) G H G1 H1) : ContO W l σ u1 G1 H1 K Q := fun v u' G' H' e2 S k => c v u' G' H' (e.trans e2) S k
/-- nothing has changed -/
theorem Cont.at {K : Dt → Mu → Prop} {Q : VK} (c : Cont W l σ u G H K Q) (S : StA W G H l u σ) {v : V} {d : Dt} (h : Dat W G v d) (k : K d u) : Q v H := c v d u G H (Ext.refl S.sub) S h k
theorem ContB.at {K : Bool → Mu → Prop} {Q : Bool → Hp → Prop} (c : ContB W l σ u G H K Q) (S : StA W G H l u σ) {b : Bool} (k : K b u) : Q b H := c b u G H (Ext.refl S.sub) S k
/-- a new tuple -/
theorem tup_ok {K : Dt → Mu → Prop} {Q : VK} (S : StA W G H l u σ) {vs : List V} {ds : List Dt} (r : DatL W G vs ds) (n : vs.length ≤ sizeLine) (k : K (.tup ds) u) (c : Cont W l σ u G H K Q) : ∀ p, H p = none → Q (.ref p) (upd H p (.tup vs)) := fun p hp => by
  obtain ⟨S1, e1⟩ := S.made (o := .tup vs) hp
  exact c _ _ _ _ _ e1 S1 (.tup upd_same n (r.mono e1.g)) k
/-- a new list -/
theorem new_ok {K : Dt → Mu → Prop} {Q : VK} (m : Bool) (S : StA W G H l u σ) {vs : List V} {ds : List Dt} (r : DatL W G vs ds) (n : vs.length ≤ sizeLine) (k : newK m ds u K) (c : Cont W l σ u G H K Q) : ∀ p, H p = none → Q (.ref p) (upd H p (.lst vs)) := fun p hp => by
  cases m with
  | false =>
    obtain ⟨S1, e1⟩ := S.made (o := .lst vs) hp
    exact c _ _ _ _ _ e1 S1 (.lst upd_same n (r.mono e1.g)) k
  | true =>
    obtain ⟨np, S1, e1⟩ := S.cell hp n r
    exact c _ _ _ _ _ e1 S1 (.adr p) (k p np)

/-! ### operators -/
theorem bin_ok (op : Operator) (m : Bool) : ∃ r : R2, (∀ X, InC W k C X → OpR X (binaryOp op) r) ∧
    ∀ {l : Dl} {σ : L2.St} {G H : Hp} {u : Mu} {x y : V} {d e : Dt} {K : Dt → Mu → Prop} {Q : VK}, StA W G H l u σ → Dat W G x d → Dat W G y e → binK op m d e u K → Cont W l σ u G H K Q → r x y H Q := by
  have no : ∀ o : Operator, (∀ {d e : Dt} {u : Mu} {K : Dt → Mu → Prop}, ¬ binK o m d e u K) → ∃ r : R2, (∀ X, InC W k C X → OpR X (binaryOp o) r) ∧
      ∀ {l : Dl} {σ : L2.St} {G H : Hp} {u : Mu} {x y : V} {d e : Dt} {K : Dt → Mu → Prop} {Q : VK}, StA W G H l u σ → Dat W G x d → Dat W G y e → binK o m d e u K → Cont W l σ u G H K Q → r x y H Q := fun o h =>
    ⟨fun _ _ _ _ => False, fun X _ pins s σ H x y v u Q I rx ry z => z.elim, fun _ _ _ b _ => absurd b h⟩
  cases op with
  | Add =>
    refine ⟨_, fun X _ => op_add.or op_cat, fun {l σ G H u x y d e K Q} S hx hy b c => ?_⟩
    have cat : (∃ xs ys, lstOf u d = some xs ∧ lstOf u e = some ys ∧ xs.length + ys.length ≤ LIM ∧ newK m (xs ++ ys) u K) → rCat x y H Q := fun ⟨xs, ys, h1, h2, h3, h4⟩ => by
      obtain ⟨a, vs, rfl, ha, _, ra⟩ := lst_rd S.sub S.mu hx h1
      obtain ⟨b, ws, rfl, hb, _, rb⟩ := lst_rd S.sub S.mu hy h2
      have n : vs.length + ws.length ≤ sizeLine := by
        rw [ra.length, rb.length]
        exact lim_le h3
      exact ⟨a, b, vs, ws, rfl, rfl, ha, hb, n, new_ok m S (ra.append rb) (by rw [List.length_append]; exact n) h4 c⟩
    cases hx <;> cases hy <;> first
      | exact .inl ⟨_, _, rfl, rfl, c.at S (.int _) b⟩
      | exact .inr (cat b)
  | Sub =>
    refine ⟨_, fun X _ => op_sub, fun {l σ G H u x y d e K Q} S hx hy b c => ?_⟩
    cases hx <;> cases hy <;> first
      | exact ⟨_, _, rfl, rfl, c.at S (.int _) b⟩
      | exact b.elim
  | Mult =>
    refine ⟨_, fun X _ => op_mul.or op_rep, fun {l σ G H u x y d e K Q} S hx hy b c => ?_⟩
    cases hx <;> cases hy <;> first
      | (obtain ⟨b1, b2⟩ := b
         refine .inl ⟨_, _, rfl, rfl, ?_, c.at S (.int _) b2⟩
         rcases b1 with b1 | b1
         · exact .inl ⟨by omega, by omega⟩
         · exact .inr ⟨by omega, by omega⟩)
      | (obtain ⟨xs, h1, h2, h3, h4, h5⟩ := b
         refine .inr ?_
         obtain ⟨a, vs, e0, ha, _, ra⟩ := lst_rd S.sub S.mu (by constructor <;> assumption) h1
         refine ⟨a, _, vs, e0, rfl, ha, by omega, by omega, ?_, new_ok m S (ra.rep _) ?_ h5 c⟩
         · rw [ra.length]
           refine lim_le (Nat.le_trans (Nat.mul_le_mul h4 (show _ ≤ 1000 by omega)) (by decide))
         · rw [List.length_flatten, List.map_replicate, List.sum_replicate_nat, ra.length]
           refine lim_le (Nat.le_trans (Nat.mul_le_mul (show _ ≤ 1000 by omega) h4) (by decide)))
      | (exact b.elim)
      | (obtain ⟨xs, h1, _⟩ := b; cases h1)
  | Mod =>
    refine ⟨_, fun X _ => op_mod, fun {l σ G H u x y d e K Q} S hx hy b c => ?_⟩
    cases hx <;> cases hy <;> first
      | exact ⟨_, _, rfl, rfl, b.1, c.at S (.int _) b.2⟩
      | exact b.elim
  | FloorDiv =>
    refine ⟨_, fun X _ => op_fdiv, fun {l σ G H u x y d e K Q} S hx hy b c => ?_⟩
    cases hx <;> cases hy <;> first
      | exact ⟨_, _, rfl, rfl, b.1, c.at S (.int _) b.2⟩
      | exact b.elim
  | Pow =>
    refine ⟨_, fun X _ => op_pow, fun {l σ G H u x y d e K Q} S hx hy b c => ?_⟩
    cases hx <;> cases hy <;> first
      | exact ⟨_, _, rfl, rfl, ⟨b.1.1, by have := b.1.2.1; omega, by have := b.1.2.2; omega⟩, c.at S (.int _) b.2⟩
      | exact b.elim
  | _ => exact no _ fun {d e u K} h => by cases d <;> cases e <;> exact h

/-! ### truth, types -/
theorem tru_rd (S : StA W G H l u σ) {x : V} {d : Dt} {t : Bool} (hx : Dat W G x d) (h : truS u d = some t) : TruV W.K x H t := by
  have ne : ∀ {vs : List V} {ds : List Dt}, DatL W G vs ds → vs.isEmpty = ds.isEmpty := fun r => by cases r <;> rfl
  cases hx with
  | non => cases h; exact rfl
  | bl b => cases h; exact rfl
  | int i => cases h; exact rfl
  | lst g n r =>
    have e := Option.some.inj h
    exact .inl ⟨_, SqL.of (S.sub _ _ g), by rw [ne r]; exact e.symm⟩
  | tup g n r =>
    have e := Option.some.inj h
    exact .inr (.inl ⟨_, SqT.of (S.sub _ _ g), by rw [ne r]; exact e.symm⟩)
  | adr p =>
    have h2 : (match get u p with
      | some (.lst ds) => some (!ds.isEmpty)
      | _ => none) = some t := h
    split at h2
    · rename_i ds q
      obtain ⟨vs, h1, _, r⟩ := S.mu.lst q
      have e := Option.some.inj h2
      exact .inl ⟨vs, SqL.of h1, by rw [ne r]; exact e.symm⟩
    · cases h2
  | _ => cases h
def tyN : Nat → String
  | 0 => "tuple" | 1 => "list" | 2 => "bool" | 3 => "int" | _ => "str"
theorem isi_kit : ∀ ty, ty < 5 → kitB "NoneType" (tyN ty) = some false ∧ kitB "bool" (tyN ty) = some (ty == 2 || ty == 3) ∧ kitB "int" (tyN ty) = some (ty == 3) ∧ kitB "list" (tyN ty) = some (ty == 1) ∧ kitB "tuple" (tyN ty) = some (ty == 0) := by
  have h : ((List.range 5).all fun ty => decide (kitB "NoneType" (tyN ty) = some false) && (decide (kitB "bool" (tyN ty) = some (ty == 2 || ty == 3)) && (decide (kitB "int" (tyN ty) = some (ty == 3)) && (decide (kitB "list" (tyN ty) = some (ty == 1)) && decide (kitB "tuple" (tyN ty) = some (ty == 0)))))) = true := by decide +kernel
  intro ty hty
  have q := List.all_eq_true.mp h ty (List.mem_range.mpr hty)
  simp only [Bool.and_eq_true, decide_eq_true_eq] at q
  exact q
theorem isi_ok (S : StA W G H l u σ) {x : V} {d : Dt} {ty : Nat} {b : Bool} (ht : ty < 5) (hx : Dat W G x d) (h : isiS u ty d = some b) {Q : VK} (q : Q (.bl b) H) : rIsi W.K [x, .ty (tyN ty)] H Q := by
  obtain ⟨k1, k2, k3, k4, k5⟩ := isi_kit ty ht
  have lst : ∀ {a vs}, H a = some (.lst vs) → x = .ref a → b = (ty == 1) → rIsi W.K [x, .ty (tyN ty)] H Q := fun h1 e1 e2 => by
    subst e1
    exact ⟨_, _, _, _, b, rfl, .ty _, .base (.lst h1), kit_ty (by rw [k4, e2]), q⟩
  cases hx with
  | non => exact ⟨_, _, _, _, b, rfl, .ty _, .base .non, kit_ty (by rw [k1]; exact h), q⟩
  | bl c => exact ⟨_, _, _, _, b, rfl, .ty _, .base (.bl c), kit_ty (by rw [k2]; exact h), q⟩
  | int i => exact ⟨_, _, _, _, b, rfl, .ty _, .base (.int i), kit_ty (by rw [k3]; exact h), q⟩
  | lst g n r => exact lst (S.sub _ _ g) rfl (Option.some.inj h).symm
  | tup g n r => exact ⟨_, _, _, _, b, rfl, .ty _, .base (.tup (S.sub _ _ g)), kit_ty (by rw [k5]; exact h), q⟩
  | adr p =>
    have h2 : (match get u p with
      | some (.lst _) => some (ty == 1)
      | _ => none) = some b := h
    split at h2
    · rename_i ds q2
      obtain ⟨vs, h1, _, r⟩ := S.mu.lst q2
      exact lst h1 rfl (Option.some.inj h2).symm
    · cases h2
  | _ => cases h
theorem bls_eq : ∀ {vs : List V} {ds : List Dt} {bs : List Bool}, DatL W G vs ds → blsOf ds = some bs → vs = bs.map V.bl
  | _, [], _, .nil, h => by cases h; rfl
  | _, .bl b :: r, bs, .cons h1 q, h => by
    have h2 : (blsOf r).map (b :: ·) = some bs := h
    cases e : blsOf r with
    | none =>
      rw [e] at h2
      cases h2
    | some cs =>
      rw [e] at h2
      cases h2
      cases h1
      rw [List.map_cons, bls_eq q e]
/-- the fields of an object -/
theorem att_rd (S : StA W G H l u σ) {x : V} {d : Dt} {c i : Nat} {fs : List (Nat × Dt)} {e : Dt} (hx : Dat W G x d) (h : d = .ins c fs ∨ ∃ p, d = .adr p ∧ get u p = some (.ins c fs)) (hl : fs.lookup i = some e) (hi : i < 11) :
    ∃ a dx vs v, c < 4 ∧ x = .ref a ∧ H a = some (.ins (W.cl c) dx vs) ∧ vs.lookup (atn i) = some v ∧ Dat W G v e := by
  rcases h with rfl | ⟨p, rfl, hp⟩
  · cases hx with
    | ins lc g r =>
      obtain ⟨v, h1, h2⟩ := r.look hi hl
      exact ⟨_, _, _, v, lc, rfl, S.sub _ _ g, h1, h2⟩
  · cases hx with
    | adr =>
      obtain ⟨_, lc, dx, vs, h1, r⟩ := S.mu.get hp
      obtain ⟨v, h2, h3⟩ := r.look hi hl
      exact ⟨p, dx, vs, v, lc, rfl, h1, h2, h3⟩
end
end Ob
/-! part Of15 -/
/-! min of two pairs. -/
namespace Ob
open PySem L2 PySem.SeqAt PySem.W
/-- the pair of a cost and a list of labels -/
def PrAt (H : Hp) (x : V) (p : Pr) : Prop := ∃ a b : Addr, x = .ref a ∧ H a = some (.tup [.int p.1, .ref b]) ∧ H b = some (.lst (p.2.map V.int)) ∧ p.2.length ≤ sizeLine
def rMin2 : List V → Hp → VK → Prop := fun vs H Q => ∃ x y p q, vs = [x, y] ∧ PrAt H x p ∧ PrAt H y q ∧ Q (if prLt q p = true then y else x) H
theorem min_two_data {prog : Program} {w : World} {A : Around} {E : Value → Shared → Prop} {s : Shared} {a b : Value} {d e : PyData} {as bs2 : List Addr} {Q : Value → Shared → Prop} (hh : A.handled = none) (ra : Reads s.heap a d as) (rb : Reads s.heap b e bs2) (ha : AlikeAll [d, e]) (hu : A.units + 1 + PyData.depthAll [d, e] < cLine)
    (h : ∀ h' tk, (∀ c o, s.heap.get? c = some o → h'.get? c = some o) → Q (if dataLt e d = true then b else a) { s with heap := h', toks := tk }) : wpAny (model prog w) A (call (.builtin "min") [a, b]) Q E s := by
  have hname : (toString "min" ++ toString ".loop" : String) = "min.loop" := by decide
  refine call_function_tree F.kind_min F.plain_min F.entry_min (F.args_min2 _ _) ?_
  show wpAny _ A.in1 (Builtin.Builtins.bindParams "min" ["key", "default"] 0 ⟨[], []⟩ >>= _) _ _ s
  refine wpAny_bind (wpAny_of_eq (show Builtin.Builtins.bindParams "min" ["key", "default"] 0 ⟨[], []⟩ = pure [none, none] from rfl) ?_)
  show wpAny _ A.in1 (newTuple [a, b] >>= _) _ _ s
  refine wpAny_bind (wpAny_newObj_type ?_)
  have hT : (s.heap.push { cls := .type "tuple", data := .seq #[a, b] }).IsTuple s.heap.objs.size #[a, b] := ⟨_, Heap.get?_push_size _ rfl, rfl, 0, rfl⟩
  refine wpAny_bind (iter_tupleW (A := A.in1) (s := { s with heap := s.heap.push { cls := .type "tuple", data := .seq #[a, b] } }) hh hT fun s₂ e2 W st hfp hw hk => ?_)
  refine wpAny_bind (wpAny_newObj_type ?_)
  have hSf : s₂.heap.objs.size ∉ [(s.heap.push { cls := .type "tuple", data := .seq #[a, b] }).objs.size, s.heap.objs.size] := fun hm => Nat.lt_irrefl _ (hfp _ hm)
  rw [hname]
  have k0 : ∀ c o, s.heap.get? c = some o → (s.heap.push { cls := .type "tuple", data := .seq #[a, b] }).get? c = some o := fun c o e => Heap.get?_push_of_some _ e
  have hr : ReadsAll (s.heap.push { cls := .type "tuple", data := .seq #[a, b] }) (#[a, b] : Array Value).toList [d, e] (as ++ (bs2 ++ [])) := .cons (reads_keeps k0 ra) (.cons (reads_keeps k0 rb) .nil)
  refine wpAny_pure ⟨plainId_quiet F.plain_min_loop _, codeAny_min_loop_firstH W (s.heap.push { cls := .type "tuple", data := .seq #[a, b] }) hw _ (cmpIn_lt (A := A.in1) (s := { s with heap := s.heap.push { cls := .type "tuple", data := .seq #[a, b] } }) hr ha (by show A.units + 1 + _ < _; exact hu)) s₂.heap.objs.size hSf (fresh_in hk) _ (show 0 < 2 by decide) (fun b o e => Heap.get?_push_of_some _ (hk b o e)) (W.frame 0 s₂ _ s₂.toks st (Nat.le_refl _) fun b _ o e => Heap.get?_push_of_some _ e) (Heap.get?_push_size _ rfl) fun v s' hP hm => ?_⟩
  have m := Moved.drop_new (tk := s₂.toks) hm (Nat.le_refl _)
  obtain ⟨h', tk, rfl, hk'⟩ := moved_old e2 rfl m
  have hq := h h' tk fun c o e => hk' c o (k0 c o e)
  have hv : v = if dataLt e d = true then b else a := by
    have hP : (#[a, b] : Array Value)[argBest (fun i j => dataLt ([d, e].getD i .none) ([d, e].getD j .none)) 1]? = some v := hP
    cases hc : dataLt e d <;> simp [argBest, hc] at hP <;> simp [hP]
  rw [hv]
  exact hq

abbrev lxT (a b : List (Int ⊕ List Nat)) : Bool := PyProof.Rows.lexLt PyProof.Rows.itemOrd a b
theorem lxT_cons (x y : Int) (r t : List (Int ⊕ List Nat)) : lxT (Sum.inl x :: r) (Sum.inl y :: t) = (decide (x < y) || (!decide (y < x) && lxT r t)) := rfl
def pyPr (p : Pr) : PyData := .tuple [.int p.1, .list (p.2.map .int)]
theorem toks_lex : ∀ a b : List Int, lxT (keyToksAll (a.map .int) ++ [(Sum.inl 0 : Int ⊕ List Nat)]) (keyToksAll (b.map .int) ++ [(Sum.inl 0 : Int ⊕ List Nat)]) = lexL a b
  | [], [] => by decide
  | [], y :: b => by
    simp only [List.map_nil, List.map_cons, keyToksAll, List.cons_append]
    rfl
  | x :: a, [] => by
    simp only [List.map_nil, List.map_cons, keyToksAll, List.cons_append]
    rfl
  | x :: a, y :: b => by
    have ih := toks_lex a b
    simp only [List.map_cons, keyToksAll, keyToks, List.cons_append, List.nil_append]
    rw [lxT_cons, lxT_cons, ih]
    show (decide ((1 : Int) < 1) || (!decide ((1 : Int) < 1) && (decide (x < y) || (!decide (y < x) && lexL a b)))) = (if x = y then lexL a b else decide (x < y))
    by_cases e : x = y
    · subst e
      simp
    · rw [if_neg e]
      by_cases h : x < y
      · simp [h]
      · have h2 : y < x := by omega
        simp [h, h2]
theorem data_lt (p q : Pr) : dataLt (pyPr p) (pyPr q) = prLt p q := by
  unfold dataLt pyPr prLt
  have h := toks_lex p.2 q.2
  simp only [keyToks, keyToksAll, List.cons_append, List.nil_append]
  show lxT _ _ = _
  rw [lxT_cons, lxT_cons, lxT_cons, h]
  show (decide ((1 : Int) < 1) || (!decide ((1 : Int) < 1) && (decide (p.1 < q.1) || (!decide (q.1 < p.1) && (decide ((1 : Int) < 1) || (!decide ((1 : Int) < 1) && lexL p.2 q.2)))))) = _
  by_cases e : p.1 = q.1
  · simp [e]
  · by_cases h : p.1 < q.1
    · simp [h, e]
    · have h2 : q.1 < p.1 := by omega
      simp [h, h2, e]
theorem alike_ints : ∀ a b : List Int, alikeAll (a.map .int) (b.map .int) = true
  | [], [] => by simp [alikeAll]
  | [], _ :: _ => by simp [alikeAll]
  | _ :: _, [] => by simp [alikeAll]
  | x :: a, y :: b => by
    simp only [List.map_cons, alikeAll, alike, alike_ints a b]
    rfl
theorem alike_pr (p q : Pr) : alike (pyPr p) (pyPr q) = true := by
  unfold pyPr
  simp only [alike, alikeAll, alike_ints]
  rfl
theorem dpa_ints {K : PySem.W.Frag} {H : Hp} : ∀ ns : List Int, DpAll K H (ns.map V.int) (ns.map PyData.int)
  | [] => .nil
  | n :: ns => .cons (.int n) (dpa_ints ns)
theorem dp_pr {K : PySem.W.Frag} {H : Hp} {x : V} {p : Pr} (h : PrAt H x p) : Dp K H x (pyPr p) := by
  obtain ⟨a, b, rfl, h1, h2, h3⟩ := h
  exact .tup (SqT.of h1) (.cons (.int _) (.cons (.lst (SqL.of h2) (dpa_ints p.2)) .nil))
theorem depth_ints : ∀ ns : List Int, PyData.depthAll (ns.map .int) ≤ 1
  | [] => by simp [PyData.depthAll]
  | n :: ns => by
    have := depth_ints ns
    simp [PyData.depthAll, PyData.depth]
    omega
theorem depth_pr (p : Pr) : (pyPr p).depth ≤ 4 := by
  have := depth_ints p.2
  unfold pyPr
  simp [PyData.depthAll, PyData.depth]
  omega
theorem cr_min2 {X : Cx} (hc : X.calm = true) (hu : X.A.units + 65 < cLine) : CallR X (.builtin "min") rMin2 := by
  intro pins s σ H xs us Q I r h
  obtain ⟨x, y, p, q, rfl, hx, hy, k⟩ := h
  obtain ⟨u, w', rfl, r1, r2⟩ := vals2 r
  obtain ⟨as, ra⟩ := Dp.reads I _ _ _ (dp_pr hx) r1
  obtain ⟨bs, rb⟩ := Dp.reads I _ _ _ (dp_pr hy) r2
  have d1 := depth_pr p
  have d2 := depth_pr q
  refine min_two_data (I.ok.hd hc) ra rb ⟨fun a ha b hb => ?_, fun a ha => ?_⟩ (by simp only [PyData.depthAll]; omega) fun h' tk kk => ⟨_, H, I.kept kk, ?_, k⟩
  · simp only [List.mem_cons, List.not_mem_nil, or_false] at ha hb
    rcases ha with rfl | rfl <;> rcases hb with rfl | rfl <;> exact alike_pr _ _
  · simp only [List.mem_cons, List.not_mem_nil, or_false] at ha
    rcases ha with rfl | rfl <;> exact fun h => nomatch h
  · rw [data_lt]
    cases prLt q p with
    | true => exact r2
    | false => exact r1
end Ob
/-! part Nx -/
/-! Sets of keys that are objects, of any kind that answers quietly. -/
namespace Ob
open PySem L2 PySem.Spec PyProof.Rows

/-- what a kind must answer beside -/
structure Qk {P : Program} {w : World} {κ : Type} [DecidableEq κ] (N : HeapKind P w κ) : Prop where
  st : N.Stays
  cls : ∀ {A : Around} {E : Value → Shared → Prop} {s : Shared} {k : κ} {b : Addr} {Q : Bool → Shared → Prop}, N.is s.heap k b → Q false s → wpAny (model P w) A (ofAClassStatement 8 (.ref b)) Q E s
  val : ∀ {A : Around} {E : Value → Shared → Prop} {s : Shared} {k : κ} {b : Addr} {Q : Bool → Shared → Prop}, N.is s.heap k b → Q true s → wpAny (model P w) A (hashByValue 8 (.ref b)) Q E s
section
variable {P : Program} {w : World} {κ : Type} [DecidableEq κ] {N : HeapKind P w κ} {A : Around} {E : Value → Shared → Prop} {s : Shared}
theorem quiet_search (q : Qk N) {k : κ} {b : Addr} {Q : Bool → Shared → Prop} (hk : N.is s.heap k b) {ys : List Value} (all : ∀ y ∈ ys, ∃ k2 c, y = Value.ref c ∧ N.is s.heap k2 c) (fin : Q false s) : wpAny (model P w) A (searchCouldBeSeen (.ref b) ys) Q E s := by
  unfold searchCouldBeSeen
  refine wpAny_bind (wpAny_forIn_list _ (fun rest r s1 => r.1 = none ∧ s1 = s ∧ ∀ y ∈ rest, ∃ k2 c, y = Value.ref c ∧ N.is s.heap k2 c) _ ?_ ?_ _ _ ⟨rfl, rfl, all⟩)
  · rintro v rest r s1 ⟨hr, rfl, al⟩
    obtain ⟨k2, c, rfl, hc⟩ := al v List.mem_cons_self
    have more : ∀ y ∈ rest, ∃ k2 c, y = Value.ref c ∧ N.is s1.heap k2 c := fun y hy => al y (List.mem_cons_of_mem _ hy)
    dsimp only
    by_cases same : (b == c || (carriedByValue (.ref b) && carriedByValue (.ref c))) = true
    · exact wp_if_pos same (wpAny_pure ⟨rfl, rfl, more⟩)
    · refine wp_if_neg same (wpAny_bind (N.quiet hk ?_))
      simp only [Bool.not_true, Bool.false_eq_true, if_false]
      refine wpAny_bind (N.quiet hc ?_)
      simp only [Bool.not_true, Bool.false_eq_true, if_false]
      refine wpAny_bind (q.cls hk ?_)
      simp only [Bool.false_eq_true, if_false]
      refine wpAny_bind (q.cls hc ?_)
      simp only [Bool.false_eq_true, if_false]
      exact wpAny_pure ⟨rfl, rfl, more⟩
  · rintro ⟨r1, r2⟩ s1 ⟨hr, rfl, _⟩
    simp only at hr
    subst hr
    exact wpAny_pure fin

/-! the table and its rows -/
/-- a set's entries -/
def rws (N : HeapKind P w κ) (M : List (κ × Addr)) : List (Int × Value) := M.map fun m => (N.hash m.1, Value.ref m.2)
theorem rws_len {M : List (κ × Addr)} {l : List (Int × Value)} (h : l = rws N M) : l.length = M.length := by
  rw [h]
  exact List.length_map _
/-- at a stands a set of a few keys -/
structure SK (N : HeapKind P w κ) (h : Heap) (a : Addr) (M : List (κ × Addr)) (es : Array (Int × Value)) (ep : Nat) (t : SetTable) : Prop where
  obj : ∃ o, h.get? a = some o ∧ o.ExactSet ∧ o.data = .set es ep t
  ent : es.toList = rws N M
  tb : TabOk t (M.map fun m => N.hash m.1)
  dst : (M.map Prod.fst).Nodup
  keys : ∀ m ∈ M, N.is h m.1 m.2
  pl : t.plain = true
  ld : w.params.followText "set-order" = true ∨ t.led = true
  rm : M.length * 5 < t.mask * 3
  cap : M.length ≤ 12
/-- the way's first place -/
abbrev bgn (t : SetTable) (h : Int) : SetTable.Probe := runAt t.mask (SetTable.bits h % (t.mask + 1)) (SetTable.bits h)
theorem nth_dm (m : Nat) : ∀ (n : Nat) (p : SetTable.Probe), p.dummy = none → (nth m p n).dummy = none
  | 0, _, h => h
  | n + 1, p, h => nth_dm m n (adv m p) (by
    unfold adv
    by_cases c : p.more > 0
    · rw [if_pos c]
      exact h
    · rw [if_neg c]
      exact h)
variable {a : Addr} {M : List (κ × Addr)} {es : Array (Int × Value)} {ep : Nat} {t : SetTable}
theorem SK.n (R : SK N s.heap a M es ep t) : es.size = M.length := by
  have e := rws_len R.ent
  simpa using e
theorem SK.np (R : SK N s.heap a M es ep t) : t.place.size = M.length := by
  have e := R.tb.sz
  simpa using e
theorem fits_of {n : Nat} (h1 : t.place.size = n) (h2 : t.dummies = #[]) (h3 : n ≤ t.mask) : t.fits n = true := by
  unfold SetTable.fits SetTable.fill
  rw [h2]
  simp [h1, h3]
theorem SK.fit (R : SK N s.heap a M es ep t) : t.fits es.size = true := by
  have h := R.rm
  exact fits_of (by rw [R.np, R.n]) R.tb.dm (by rw [R.n]; omega)
theorem ent_at (h : es.toList = rws N M) {i : Nat} {m : κ × Addr} (hm : M[i]? = some m) : es[i]? = some (N.hash m.1, Value.ref m.2) := by
  have e : es.toList[i]? = some (N.hash m.1, Value.ref m.2) := by
    rw [h, rws, List.getElem?_map, hm]
    rfl
  simpa using e
theorem SK.plainWay (R : SK N s.heap a M es ep t) : ¬ t.gaveWay = true := by
  unfold SetTable.gaveWay
  have e := mask_odd R.tb.mok
  rw [e]
  decide
theorem SK.slotM (R : SK N s.heap a M es ep t) {i j : Nat} (h : t.place.toList[i]? = some j) : ∃ m, M[i]? = some m ∧ m ∈ M := by
  have l1 : i < t.place.toList.length := (List.getElem?_eq_some_iff.mp h).1
  have l2 : i < M.length := by
    have e := R.np
    simp only [Array.length_toList] at l1
    omega
  exact ⟨M[i], List.getElem?_eq_getElem l2, List.getElem_mem l2⟩

/-- looking for k along its way -/
theorem seek (q : Qk N) (R : SK N s.heap a M es ep t) {b : Addr} {k : κ} (hb : N.is s.heap k b) (hu : N.room A) {K : Nat} (kf : K < 10 * SetTable.turns t.mask)
    (k1 : way t.mask (N.hash k) K ∉ t.place.toList) (k2 : ∀ c, c < K → way t.mask (N.hash k) c ∈ t.place.toList) {Q : SetFound → Shared → Prop}
    (yes : k ∈ M.map Prod.fst → Q (.there none) s) (no : k ∉ M.map Prod.fst → Q (.free (way t.mask (N.hash k) K) false) s) :
    ∀ (f c : Nat) (st : Option SetTable.Probe), st.getD (t.probeStart (N.hash k)) = nth t.mask (bgn t (N.hash k)) c → c ≤ K → K < f + c →
      (∀ (i : Nat) m, M[i]? = some m → m.1 = k → ∃ z, c ≤ z ∧ z < K ∧ t.place.toList[i]? = some (way t.mask (N.hash k) z)) →
      wpAny (model P w) A (setSearchFrom a (.ref b) (N.hash k) true f st) Q E s := by
  obtain ⟨o, go, _, gd⟩ := R.obj
  intro f
  induction f with
  | zero =>
    intro c st _ h1 h2 _
    omega
  | succ f ih =>
    intro c st e0 h1 h2 inv
    rw [setSearchFrom_succ]
    refine wpAny_bind (wpAny_setState_of go gd R.fit ?_)
    dsimp only
    refine wp_if_neg R.plainWay ?_
    try refine wpAny_bind (wpAny_pure ?_)
    have sh : ∀ z, nth t.mask (nth t.mask (bgn t (N.hash k)) c) z = nth t.mask (bgn t (N.hash k)) (c + z) := fun z => (nth_add t.mask c _ z).symm
    have wj : ∀ z, (nth t.mask (nth t.mask (bgn t (N.hash k)) c) z).j = way t.mask (N.hash k) (c + z) := fun z => by
      rw [sh]
    have back : c + (K - c) = K := by omega
    have hs : ∀ (i : Nat) m, M[i]? = some m → (es[i]?.map (·.1)).getD 0 = N.hash m.1 := fun i m hm => by
      rw [ent_at R.ent hm]
      rfl
    have sp := go_spec t R.tb.ris R.tb.dm (fun i => (es[i]?.map (·.1)).getD 0) (N.hash k) (10 * SetTable.turns t.mask) (K - c) _ (nth_dm t.mask c (bgn t (N.hash k)) rfl) (by omega)
      (fun z hz => by
        rw [wj]
        exact k2 (c + z) (by omega))
      (by
        rw [wj, back]
        exact k1)
    rcases sp with ⟨z, i, hz, hi, _, nob, ans⟩ | ⟨nob, ans⟩
    · rw [wj] at hi
      obtain ⟨m, hm, hin⟩ := R.slotM hi
      have ans2 : t.probe (fun i => (es[i]?.map (·.1)).getD 0) (N.hash k) (st.getD (t.probeStart (N.hash k))) = some (.candidate (way t.mask (N.hash k) (c + z)) i (nth t.mask (bgn t (N.hash k)) (c + (z + 1)))) := by
        rw [e0, ← wj, ← sh]
        exact ans
      rw [ans2]
      dsimp only
      have live : t.slot (way t.mask (N.hash k) (c + z)) = .live i := slot_live R.tb.ris hi
      have go2 : wpAny (model P w) A (searchRest a (.ref b) (N.hash k) true f es t (way t.mask (N.hash k) (c + z)) i (nth t.mask (bgn t (N.hash k)) (c + (z + 1)))) Q E s := by
        unfold searchRest
        rw [ent_at R.ent hm]
        dsimp only
        refine wpAny_bind (wpAny_holding (N.eqBool hu (R.keys m hin) hb ?_))
        refine wpAny_bind (wpAny_setState_of go gd R.fit ?_)
        dsimp only
        by_cases same : m.1 = k
        · refine wp_if_pos (by simp [same]) (wpAny_pure (yes ?_))
          rw [← same]
          exact List.mem_map_of_mem hin
        · refine wp_if_neg (by simp [same]) ?_
          try refine wpAny_bind (wpAny_pure ?_)
          rw [sameMem]
          dsimp only
          simp only [if_true, live, ent_at R.ent hm]
          refine wpAny_bind (wpAny_isSame_ref_self (wpAny_bind (wpAny_pure ?_)))
          simp only [if_true]
          refine wp_if_neg (by simp [same]) (ih (c + (z + 1)) _ rfl (by omega) (by omega) fun j m2 hj hk2 => ?_)
          obtain ⟨y, y1, y2, y3⟩ := inv j m2 hj hk2
          refine ⟨y, ?_, y2, y3⟩
          by_cases lt : y < c + z
          · exfalso
            have ey : c + (y - c) = y := by omega
            exact nob (y - c) j (by omega) (by rw [wj, ey]; exact y3) ((hs j m2 hj).trans (by rw [hk2]))
          · by_cases eq : y = c + z
            · exfalso
              rw [eq] at y3
              have l2 := slot_live R.tb.ris y3
              rw [live] at l2
              cases l2
              rw [hm] at hj
              cases hj
              exact same hk2
            · omega
      by_cases hl : t.led = true
      · refine wp_if_neg (by simp [hl]) ?_
        try refine wpAny_bind (wpAny_pure ?_)
        exact go2
      · refine wp_if_pos (by simp [hl]) (wpAny_bind (quiet_search q hb (fun y hy => ?_) ?_))
        · obtain ⟨e, he, rfl⟩ := List.mem_map.mp hy
          have he3 : e ∈ rws N M := by
            rw [← R.ent]
            have he1 : e ∈ es ∧ e.1 = N.hash k := by simpa using he
            simpa using he1.1
          obtain ⟨m2, hm2, rfl⟩ := List.mem_map.mp he3
          exact ⟨m2.1, m2.2, rfl, R.keys m2 hm2⟩
        · refine wp_if_neg (by decide) ?_
          try refine wpAny_bind (wpAny_pure ?_)
          exact go2
    · have ans2 : t.probe (fun i => (es[i]?.map (·.1)).getD 0) (N.hash k) (st.getD (t.probeStart (N.hash k))) = some (.empty (way t.mask (N.hash k) K) none) := by
        have e := wj (K - c)
        rw [back] at e
        rw [e0, ← e]
        exact ans
      rw [ans2]
      dsimp only
      refine wpAny_pure (no fun hin => ?_)
      obtain ⟨m, hm, hk⟩ := List.mem_map.mp hin
      obtain ⟨i, li, ei⟩ := List.getElem_of_mem hm
      have hi : M[i]? = some m := by rw [List.getElem?_eq_getElem li, ei]
      obtain ⟨y, y1, y2, y3⟩ := inv i m hi hk
      have ey : c + (y - c) = y := by omega
      exact nob (y - c) i (by omega) (by rw [wj, ey]; exact y3) ((hs i m hi).trans (by rw [hk]))
theorem seekAll (q : Qk N) (R : SK N s.heap a M es ep t) {b : Addr} {k : κ} (hb : N.is s.heap k b) (hu : N.room A) {Q : SetFound → Shared → Prop} (yes : k ∈ M.map Prod.fst → Q (.there none) s)
    (no : ∀ K, k ∉ M.map Prod.fst → way t.mask (N.hash k) K ∉ t.place.toList → (∀ c, c < K → way t.mask (N.hash k) c ∈ t.place.toList) → Q (.free (way t.mask (N.hash k) K) false) s) :
    wpAny (model P w) A (setSearch a (.ref b) (N.hash k) true) Q E s := by
  have h3 := R.rm
  obtain ⟨K, kf, k1, k2⟩ := R.tb.first (by rw [List.length_map]; omega) (N.hash k)
  have top : K < 100000 := by
    refine Nat.lt_trans kf ?_
    unfold SetTable.turns
    rcases R.tb.mok with e | e | e <;> rw [e] <;> decide
  unfold setSearch
  refine seek q R hb hu kf k1 k2 yes (fun n => no K n k1 k2) 100000 0 none rfl (Nat.zero_le _) (by omega) fun i m hm hk => ?_
  have l2 : i < t.place.toList.length := by
    have l1 : i < M.length := (List.getElem?_eq_some_iff.mp hm).1
    have e := R.np
    simp only [Array.length_toList]
    omega
  have g := List.getElem?_eq_getElem l2
  obtain ⟨z, z1, z2⟩ := R.tb.before k1 (i := i) (by
    rw [List.getElem?_map, hm, ← hk]
    rfl) g
  exact ⟨z, Nat.zero_le _, z1, by rw [g, z2]⟩

/-! putting in -/
theorem is_but (q : Qk N) {h h' : Heap} {o : Obj} {k : κ} {b : Addr} (hb : N.is h k b) (go : h.get? a = some o) (gd : o.data = .set es ep t) (sb : Heap.SameBut a h h') : N.is h' k b := by
  refine q.st.stays (fun c o2 vs n g2 d2 => ?_) hb
  rw [sb.2 c]
  · exact g2
  · intro e
    subst e
    rw [go] at g2
    cases g2
    rw [gd] at d2
    cases d2
theorem all_at {α : Type} : ∀ l : List α, (List.range l.length).filterMap (fun i => l[i]?) = l
  | [] => rfl
  | x :: l => by
    have e : (fun i => (x :: l)[i]?) ∘ Nat.succ = fun i => l[i]? := by
      funext i
      simp
    rw [List.length_cons, List.range_succ_eq_map, List.filterMap_cons, List.filterMap_map, e, all_at l]
    rfl
theorem shuffled (h : es.toList = rws N M) (order : Array Nat) (pm : order.toList.Perm (List.range M.length)) :
    ∃ M2, (order.filterMap (es[·]?)).toList = rws N M2 ∧ M2.Perm M ∧ (M2.map fun m => N.hash m.1) = order.toList.map fun i => (es.map (·.1)).getD i 0 := by
  refine ⟨order.toList.filterMap fun i => M[i]?, ?_, ?_, ?_⟩
  · have e : (fun i : Nat => es[i]?) = fun i : Nat => (M[i]?).map fun m : κ × Addr => (N.hash m.1, Value.ref m.2) := by
      funext i
      have e2 : es[i]? = es.toList[i]? := by simp
      rw [e2, h, rws, List.getElem?_map]
    rw [Array.toList_filterMap, e, rws, List.map_filterMap]
  · have e := pm.filterMap fun i => M[i]?
    rw [all_at] at e
    exact e
  · have key : ∀ l : List Nat, (∀ i ∈ l, i < M.length) → ((l.filterMap fun i => M[i]?).map fun m => N.hash m.1) = l.map fun i => (es.map (·.1)).getD i 0 := by
      intro l
      induction l with
      | nil =>
        intro _
        rfl
      | cons i l ih =>
        intro hl
        have li := hl i List.mem_cons_self
        have g : M[i]? = some M[i] := List.getElem?_eq_getElem li
        have e : (es.map (·.1))[i]? = some (N.hash (M[i]).1) := by
          rw [Array.getElem?_map, ent_at h g]
          rfl
        rw [List.filterMap_cons_some g, List.map_cons, List.map_cons, ih fun j hj => hl j (List.mem_cons_of_mem _ hj), Array.getD_eq_getD_getElem?, e]
        rfl
    exact key _ fun i hi => List.mem_range.mp (pm.mem_iff.mp hi)
/-- five entries: the table grows -/
theorem grow5 (q : Qk N) {o : Obj} (go : s.heap.get? a = some o) (gx : o.ExactSet) (gd : o.data = .set es ep t) (he : es.toList = rws N M) (n5 : M.length = 5) (hp : t.place.size = 5) (hd : t.dummies = #[]) (hm : t.mask = 7)
    (dst : (M.map Prod.fst).Nodup) (keys : ∀ m ∈ M, N.is s.heap m.1 m.2) (pl : t.plain = true) (ld : w.params.followText "set-order" = true ∨ t.led = true) {Q : Unit → Shared → Prop}
    (hQ : ∀ h' M' es' ep' t', Heap.SameBut a s.heap h' → SK N h' a M' es' ep' t' → M'.Perm M → Q () { s with heap := h' }) : wpAny (model P w) A (setRelay a (SetTable.grown 5)) Q E s := by
  have es5 : es.size = 5 := by
    have e := rws_len he
    rw [n5] at e
    simpa using e
  have big : SetTable.sizeAbove (SetTable.grown 5) ≤ sizeLine := by
    rw [size_20, sizeLine_eq]
    omega
  obtain ⟨t2, order, e1, e2, e3, e4, e5, e6, e7⟩ := relaid_ok t (hs := es.map (·.1)) (wanted := SetTable.grown 5) (M := 31) (by rw [size_20]) (.inr (.inl rfl)) (by rw [Array.size_map, es5]; decide)
  have e2 : order.toList.Perm (List.range M.length) := by
    rw [n5, ← es5]
    simpa using e2
  obtain ⟨M2, f1, f2, f3⟩ := shuffled he order e2
  have sz2 : (order.filterMap (es[·]?)).size = 5 := by
    have e := rws_len f1
    rw [f2.length_eq, n5] at e
    rw [← Array.length_toList]
    exact e
  rw [setRelay_eq]
  refine wpAny_bind (wpAny_setState_of go gd (fits_of (by rw [hp, es5]) hd (by rw [es5, hm]; decide)) ?_)
  dsimp only
  refine wp_if_neg (by omega) ?_
  try refine wpAny_bind (wpAny_pure ?_)
  rw [e1]
  dsimp only
  refine wpAny_bind (wp_if_neg (by simp [sz2, es5]) ?_)
  try refine wpAny_bind (wpAny_pure ?_)
  refine wpAny_pure ?_
  dsimp only
  refine wpAny_storeSet_of go gd ?_ (by rw [sz2, sizeLine_eq]; omega)
  have sb : Heap.SameBut a s.heap (s.heap.update a (Obj.putSet (order.filterMap (es[·]?)) t2)) := Heap.SameBut.update ..
  refine hQ _ M2 (order.filterMap (es[·]?)) (ep + 1) t2 sb ⟨⟨_, store_at go gd, ⟨gx.1, gx.2.1, gx.2.2⟩, rfl⟩, f1, ?_, (f2.map Prod.fst).nodup_iff.mpr dst, fun m h => is_but q (keys m (f2.mem_iff.mp h)) go gd sb, e6.trans pl, ?_, ?_, ?_⟩ f2
  · rw [f3]
    exact e3
  · rw [e5]
    exact ld
  · rw [f2.length_eq, n5, e4]
    decide
  · rw [f2.length_eq, n5]
    decide
/-- one key more -/
theorem putKey (q : Qk N) (R : SK N s.heap a M es ep t) {b : Addr} {k : κ} (hb : N.is s.heap k b) (hu : N.room A) (hc : M.length + 1 ≤ 12) {Q : Bool → Shared → Prop}
    (hQ : ∀ r h' M' es' ep' t', Heap.SameBut a s.heap h' → SK N h' a M' es' ep' t' → (k ∈ M.map Prod.fst → M' = M) → (k ∉ M.map Prod.fst → M'.Perm ((k, b) :: M)) → Q r { s with heap := h' }) :
    wpAny (model P w) A (setAddHashed a (.ref b) (N.hash k)) Q E s := by
  obtain ⟨o, go, gx, gd⟩ := R.obj
  unfold setAddHashed
  refine wpAny_holding ?_
  rw [show (100000 : Nat) = 99999 + 1 from rfl, setAddHashedIn_succ]
  refine wpAny_bind (wpAny_setState_of go gd R.fit ?_)
  dsimp only
  refine wp_if_neg (by simp [byScan, Value.scannable]) ?_
  try refine wpAny_bind (wpAny_pure ?_)
  refine wpAny_bind (seekAll q R hb hu (fun old => ?_) fun K new k1 k2 => ?_)
  · dsimp only
    exact wpAny_pure (hQ false s.heap M es ep t (Heap.SameBut.refl a s.heap) R (fun _ => rfl) fun n => absurd old n)
  dsimp only
  refine wpAny_bind (wpAny_setState_of go gd R.fit ?_)
  dsimp only
  obtain ⟨_, p2, p3, p4, p5, p6, _, _, p9⟩ := R.tb.put k1 k2
  have pl1 : (t.put (way t.mask (N.hash k) K)).1.plain = true := p6.trans R.pl
  have ld1 : w.params.followText "set-order" = true ∨ (t.put (way t.mask (N.hash k) K)).1.led = true := by
    rw [p5]
    exact R.ld
  have at1 : (t.put (way t.mask (N.hash k) K)).2 = SetTable.below t.place (way t.mask (N.hash k) K) := rfl
  generalize t.put (way t.mask (N.hash k) K) = tp at p3 p4 p9 pl1 ld1 at1 ⊢
  obtain ⟨t1, i⟩ := tp
  dsimp only at p3 p4 p9 pl1 ld1 at1 ⊢
  rw [← at1] at p2 p3
  clear at1 p5 p6
  first
    | (refine wpAny_bind ?_; refine wp_if_pos pl1 ?_; refine q.val hb ?_)
    | refine wp_if_pos pl1 (wpAny_bind (q.val hb ?_))
  simp only [if_true]
  have ins : (SetTable.insertAt es i (N.hash k, Value.ref b)).toList = rws N (M.take i ++ (k, b) :: M.drop i) := by
    rw [SetTable.toList_insertAt, R.ent]
    simp [rws, List.map_take, List.map_drop]
  have pm := put_perm M i (k, b)
  have hh : ((M.take i ++ (k, b) :: M.drop i).map fun m => N.hash m.1) = (M.map fun m => N.hash m.1).take i ++ N.hash k :: (M.map fun m => N.hash m.1).drop i := by
    simp [List.map_take, List.map_drop]
  rw [← hh] at p3
  generalize M.take i ++ (k, b) :: M.drop i = M1 at ins pm p3
  generalize SetTable.insertAt es i (N.hash k, Value.ref b) = es1 at ins ⊢
  have len1 : M1.length = M.length + 1 := pm.length_eq
  have es1n : es1.size = M.length + 1 := by
    have e := rws_len ins
    rw [len1] at e
    simpa using e
  have dst1 : (M1.map Prod.fst).Nodup := by
    refine (pm.map Prod.fst).nodup_iff.mpr ?_
    exact List.nodup_cons.mpr ⟨new, R.dst⟩
  refine wpAny_bind (wpAny_storeSet_of go gd ?_ (by rw [es1n, sizeLine_eq]; omega))
  have sb : Heap.SameBut a s.heap (s.heap.update a (Obj.putSet es1 t1)) := Heap.SameBut.update ..
  have go1 := store_at (es' := es1) (t' := t1) go gd
  generalize s.heap.update a (Obj.putSet es1 t1) = h1 at sb go1 ⊢
  have keys1 : ∀ m ∈ M1, N.is h1 m.1 m.2 := fun m hm => by
    cases pm.mem_iff.mp hm with
    | head => exact is_but q hb go gd sb
    | tail _ hm => exact is_but q (R.keys m hm) go gd sb
  have np1 : t1.place.size = M.length + 1 := by
    have e := p3.sz
    rw [List.length_map, len1] at e
    exact e
  have full : t1.tooFull = decide ((M.length + 1) * 5 ≥ t1.mask * 3) := by
    unfold SetTable.tooFull
    rw [p9, List.length_map]
  have hrm := R.rm
  by_cases c : t1.tooFull = true
  · have c2 : (M.length + 1) * 5 ≥ t.mask * 3 := by
      rw [full, decide_eq_true_eq, p4] at c
      exact c
    have c3 : t.mask = 7 ∧ M.length = 4 := by
      rcases R.tb.mok with e | e | e <;> rw [e] at c2 hrm
      · exact ⟨e, by omega⟩
      · omega
      · omega
    first
      | (refine wpAny_bind ?_; refine wp_if_pos (by simp [c]) ?_)
      | (refine wp_if_pos (by simp [c]) ?_; refine wpAny_bind ?_)
    have e5 : es.size + 1 = 5 := by rw [R.n, c3.2]
    rw [e5]
    refine grow5 (s := { s with heap := h1 }) q go1 ⟨gx.1, gx.2.1, gx.2.2⟩ rfl ins (by rw [len1, c3.2]) (by rw [np1, c3.2]) p3.dm (p4.trans c3.1) dst1 keys1 pl1 ld1 fun h2 M2 es2 ep2 t2 sb2 R2 pm2 => ?_
    exact wpAny_pure (hQ true h2 M2 es2 ep2 t2 (sb.trans sb2) R2 (fun z => absurd z new) fun _ => pm2.trans pm)
  · first
      | refine wp_if_neg (by simp [c]) ?_
      | (refine wpAny_bind ?_; refine wp_if_neg (by simp [c]) ?_; refine wpAny_pure ?_)
    refine wpAny_pure (hQ true h1 M1 es1 (ep + 1) t1 sb ⟨⟨_, go1, ⟨gx.1, gx.2.1, gx.2.2⟩, rfl⟩, ins, p3, dst1, keys1, pl1, ld1, ?_, by omega⟩ (fun z => absurd z new) fun _ => pm)
    rw [full, decide_eq_true_eq] at c
    omega
end
end Ob
/-! part Ny -/
/-! set(xs) of a list, by its loop; sorted of such a set. -/
namespace Ob
open PySem L2 PySem.Spec PyProof.Rows

section
variable {P : Program} {w : World} {κ : Type} [DecidableEq κ] {N : HeapKind P w κ} {A : Around} {E : Value → Shared → Prop} {s : Shared}
/-- an empty set, as it is made -/
abbrev set0 (w : World) : Obj := { cls := .type "set", dict := none, data := .set #[] 0 (.fresh 0 0 (!w.params.followText "set-order")) }
/-- a list's iterator at its start -/
abbrev lit0 (l : Addr) : Obj := { cls := .type "list_iterator", data := .fields #[.ref l, .int 0 0] }
/-- what has come in from the first i -/
structure CameIn (l : List (κ × Addr)) (i : Nat) (M : List (κ × Addr)) : Prop where
  sub : ∀ m ∈ M, m ∈ l.take i
  all : ∀ m ∈ l.take i, m.1 ∈ M.map Prod.fst
  len : M.length ≤ i
theorem CameIn.next {l M M' : List (κ × Addr)} {i : Nat} {m : κ × Addr} (c : CameIn l i M) (h : l[i]? = some m) (same : m.1 ∈ M.map Prod.fst → M' = M) (more : m.1 ∉ M.map Prod.fst → M'.Perm (m :: M)) : CameIn l (i + 1) M' := by
  have tk := take_next h
  by_cases o : m.1 ∈ M.map Prod.fst
  · rw [same o]
    refine ⟨fun x hx => by rw [tk]; exact List.mem_append_left _ (c.sub x hx), fun x hx => ?_, by have := c.len; omega⟩
    rw [tk] at hx
    rcases List.mem_append.mp hx with z | z
    · exact c.all x z
    · cases List.mem_singleton.mp z
      exact o
  · have pm := more o
    refine ⟨fun x hx => ?_, fun x hx => ?_, by have := c.len; rw [pm.length_eq, List.length_cons]; omega⟩
    · rw [tk]
      cases pm.mem_iff.mp hx with
      | head => exact List.mem_append_right _ List.mem_cons_self
      | tail _ z => exact List.mem_append_left _ (c.sub x z)
    · refine ((pm.map Prod.fst).mem_iff).mpr ?_
      rw [tk] at hx
      rcases List.mem_append.mp hx with z | z
      · exact List.mem_cons_of_mem _ (c.all x z)
      · cases List.mem_singleton.mp z
        exact List.mem_cons_self
theorem is_kept (q : Qk N) {h h' : Heap} {k : κ} {b : Addr} (x : N.is h k b) (kp : ∀ c o, h.get? c = some o → h'.get? c = some o) : N.is h' k b := q.st.stays (fun c o _ _ e _ => kp c o e) x
theorem SK.kept {h h' : Heap} {a : Addr} {M : List (κ × Addr)} {es : Array (Int × Value)} {ep : Nat} {t : SetTable} (R : SK N h a M es ep t) (ha : ∀ o, h.get? a = some o → h'.get? a = some o) (hk : ∀ m ∈ M, N.is h' m.1 m.2) : SK N h' a M es ep t := by
  obtain ⟨o, go, r⟩ := R.obj
  exact { R with obj := ⟨o, ha o go, r⟩, keys := hk }
theorem sk_new {h : Heap} {a : Addr} (go : h.get? a = some (set0 w)) : SK N h a [] #[] 0 (.fresh 0 0 (!w.params.followText "set-order")) := by
  refine ⟨⟨_, go, ⟨rfl, rfl, rfl⟩, rfl⟩, rfl, ⟨List.Pairwise.nil, rfl, rfl, .inl rfl, fun x hx => (by cases hx), fun i _ _ hi => (by cases hi)⟩, List.nodup_nil, fun m hm => (by cases hm), rfl, ?_, (by show 0 * 5 < 7 * 3; decide), Nat.zero_le 12⟩
  by_cases c : w.params.followText "set-order" = true
  · exact .inl c
  · refine .inr ?_
    show (!w.params.followText "set-order") = true
    simpa using c
/-- the loop of update: keys that are objects -/
theorem keys_loop (q : Qk N) {I : Addr} {fp wr : List Addr} {G : Array GenState → Array GenState → Prop} {n : Nat} {Pv : Nat → Value → Prop} {St : Nat → Shared → Prop} {R : Result → Shared → Prop}
    (W : WalksS P w A.in1 I fp wr G n Pv St) {S : Addr} (out : S ∉ fp) {l : List (κ × Addr)} (hn : n = l.length) (few : l.length ≤ 12) (val : ∀ i v, Pv i v → ∃ m, l[i]? = some m ∧ v = .ref m.2)
    {h0 : Heap} (hk : ∀ m ∈ l, N.is h0 m.1 m.2) (S0 : h0.get? S = none) (W0 : ∀ b ∈ wr, h0.get? b = none) (hu : N.room A.in1) :
    ∀ (d i : Nat) (s : Shared), n = i + d → St i s → (∀ b o, h0.get? b = some o → s.heap.get? b = some o) → (∃ M es ep t, SK N s.heap S M es ep t ∧ CameIn l i M) →
      (∀ s', Moved (S :: wr) G s s' → (∃ M es ep t, SK N s'.heap S M es ep t ∧ CameIn l n M) → R (.ok (.ret .none)) s') →
      codeAny (model P w) A (.builtin "set.update.loop" ⟨[.ref S, .ref I], []⟩) R s := by
  have outW : S ∉ wr := fun z => out (W.sub _ z)
  have old : ∀ {s s' : Shared}, Moved wr G s s' → (∀ b o, h0.get? b = some o → s.heap.get? b = some o) → ∀ b o, h0.get? b = some o → s'.heap.get? b = some o := by
    intro s s' mv kp b o e
    refine mv.heap b o (fun z => ?_) (kp b o e)
    rw [W0 b z] at e
    cases e
  have carry : ∀ {i : Nat} {s s' : Shared} {M : List (κ × Addr)} {es : Array (Int × Value)} {ep : Nat} {t : SetTable}, Moved wr G s s' → (∀ b o, h0.get? b = some o → s'.heap.get? b = some o) → SK N s.heap S M es ep t → CameIn l i M → SK N s'.heap S M es ep t :=
    fun mv kp K c => K.kept (fun o e => mv.heap S o outW e) fun m hm => is_kept q (hk m (List.mem_of_mem_take (c.sub m hm))) kp
  intro d
  induction d with
  | zero =>
    rintro i s e st kp ⟨M, es, ep, t, K, c⟩ fin
    rw [Nat.add_zero] at e
    subst e
    refine codeAny_builtin F.entry_set_update_loop ?_
    rw [Around.under_plainId F.plain_set_update_loop _]
    show wpAny _ A.in1 (pyNext (.ref I) >>= _) _ _ s
    refine wpAny_bind (W.done s _ _ st fun s' mv => ?_)
    exact wpAny_pure (fin s' (mv.mono fun b hb => List.mem_cons_of_mem _ hb) ⟨M, es, ep, t, carry mv (old mv kp) K c, c⟩)
  | succ d ih =>
    rintro i s e st kp ⟨M, es, ep, t, K, c⟩ fin
    refine codeAny_builtin F.entry_set_update_loop ?_
    rw [Around.under_plainId F.plain_set_update_loop _]
    show wpAny _ A.in1 (pyNext (.ref I) >>= _) _ _ s
    refine wpAny_bind (W.item i s _ _ (by omega) st fun v s1 hv st1 mv => ?_)
    obtain ⟨m, hm, rfl⟩ := val i v hv
    have kp1 := old mv kp
    have li : i < l.length := (List.getElem?_eq_some_iff.mp hm).1
    show wpAny _ A.in1 (holding [Value.ref m.2] (setAdd S (.ref m.2)) >>= _) _ _ s1
    refine wpAny_bind (wpAny_holding ?_)
    have hm1 : N.is s1.heap m.1 m.2 := is_kept q (hk m (List.mem_of_getElem? hm)) kp1
    have K1 := carry mv kp1 K c
    unfold setAdd
    refine wpAny_holding (wpAny_bind (N.pyHash hu hm1 ?_))
    refine putKey (s := { s1 with toks := s1.toks + N.draws m.1 }) q K1 hm1 hu (by have := c.len; omega) fun _ h2 M2 es2 ep2 t2 sb K2 c1 c2 => ?_
    have other : ∀ b o, b ≠ S → s1.heap.get? b = some o → h2.get? b = some o := fun b o nb e => (sb.2 b nb).trans e
    have kp2 : ∀ b o, h0.get? b = some o → h2.get? b = some o := fun b o e => other b o (fun z => by rw [z, S0] at e; cases e) (kp1 b o e)
    refine wpAny_pure ⟨plainId_quiet F.plain_set_update_loop _, ih (i + 1) _ (by omega) (W.frame _ s1 _ _ st1 (Nat.le_add_right _ _) fun b hb o e => other b o (fun z => out (by rw [← z]; exact hb)) e) kp2 ⟨M2, es2, ep2, t2, K2, c.next hm c1 c2⟩ fun s3 mv3 r3 => ?_⟩
    refine fin s3 (Moved.trans W.gtrans ((mv.mono fun b hb => List.mem_cons_of_mem _ hb).then_heap (Nat.le_add_right _ _) fun b o nb e => ?_) mv3) r3
    exact other b o (fun z => nb (by rw [z]; exact List.mem_cons_self)) e

set_option maxHeartbeats 8000000 in
/-- set(xs), xs a list: by what its loop leaves -/
theorem set_of_list {l : Addr} {items : Array Value} {D : Heap → Prop} {Q : Value → Shared → Prop} (hh : A.handled = none) (hl : s.heap.IsList l items)
    (loop : ∀ R : Result → Shared → Prop, (∀ s', Moved [s.heap.objs.size, (s.heap.push (set0 w)).objs.size] (fun a b => b = a) { s with heap := (s.heap.push (set0 w)).push (lit0 l) } s' → D s'.heap → R (.ok (.ret .none)) s') →
      WalksS P w A.in1.in1.in1 (s.heap.push (set0 w)).objs.size [(s.heap.push (set0 w)).objs.size, l] [(s.heap.push (set0 w)).objs.size] (fun a b => b = a) items.size (fun i v => items[i]? = some v) (fun i z => z.heap.IsListIter (s.heap.push (set0 w)).objs.size l i ∧ z.heap.IsList l items) →
      codeAny (model P w) A.in1.in1 (.builtin "set.update.loop" ⟨[.ref s.heap.objs.size, .ref (s.heap.push (set0 w)).objs.size], []⟩) R { s with heap := (s.heap.push (set0 w)).push (lit0 l) })
    (fin : ∀ (h' : Heap) (tk : Nat), D h' → (∀ b o, s.heap.get? b = some o → h'.get? b = some o) → Q (.ref s.heap.objs.size) { s with heap := h', toks := tk }) :
    wpAny (model P w) A (call (.type "set") [.ref l]) Q E s := by
  obtain ⟨_, _, hmro⟩ := F.called_set.mro
  have g1 := F.called_set.made
  have g2 := F.called_set.sub
  refine wpAny_call (codeAny_of_tree ?_)
  show wpAny _ _ (callAny (.type "set") _) _ _ _
  refine wpAny_pure ⟨Code.quiet_builtin _ (by decide +kernel), codeAny_builtin F.entry_type_call ?_⟩
  rw [Around.under_plain (weight_type_call_type "set" [.ref l] []) rfl]
  have g3 := F.called_set.notType
  have g4 := F.called_set.canCreate
  have g5 := F.typeCall_set_1 (.ref l)
  repeat (any_goals (first | assumption | wp_step))
  refine codeAny_mono (code_set_led1 (.ref l) (E := E) (Q₁ := fun obj s₁ => obj = .ref s.heap.objs.size ∧ s₁ = { s with heap := s.heap.push (set0 w) }) ⟨rfl, rfl⟩) fun r s₁ hr => ?_
  cases r with
  | error e => exact hr
  | ok fl =>
    cases fl with
    | ret obj =>
      obtain ⟨rfl, rfl⟩ := hr
      have gS : (s.heap.push (set0 w)).get? s.heap.objs.size = some (set0 w) := Heap.get?_push_size _ rfl
      have gT : Shared.TypeIs { s with heap := s.heap.push (set0 w) } (.ref s.heap.objs.size) "set" := ⟨_, gS, rfl⟩
      have g6 := F.called_set.init.lookup
      have g7 := F.called_set.init.bind (.ref s.heap.objs.size)
      repeat (any_goals (first | assumption | wp_step))
      refine codeAny_mono (codeAny_call_builtin (R := wants (fun r s₂ => r = .none ∧ ∃ h' tk, s₂ = { s with heap := h', toks := tk } ∧ D h' ∧ (∀ b o, s.heap.get? b = some o → h'.get? b = some o)) E) F.called_set.init.plain F.entry_set_init (check_set_init_1 gT ?_)) fun r₂ s₂ hr₂ => ?_
      · have ll : l < s.heap.objs.size := by
          obtain ⟨o, ho, _⟩ := hl
          exact Heap.lt_size ho
        have hl1 : (s.heap.push (set0 w)).IsList l items := hl.push _
        obtain ⟨ol, hol, hcl, nl, hdl⟩ := hl
        obtain ⟨ocls, odict, odata, oslots⟩ := ol
        simp only at hcl hdl
        subst hcl
        subst hdl
        have hol1 : (s.heap.push (set0 w)).get? l = some { cls := .type "list", dict := odict, data := .seq items nl, slots := oslots } := Heap.get?_push_of_some _ hol
        have g8 := F.sub_list_set
        have g9 := F.sub_list_frozenset
        have g0 : (Value.type "list" == Value.type "dict") = false := by decide
        unfold Builtin.«set.__init__» noKeywords Builtin.Frozenset.updateFrom
        generalize hPI : pyIter = PI
        wp_walk
        subst hPI
        refine wpAny_pyIter_list hl1 (wpAny_bind (wpAny_runValue ?_))
        have none3 : A.in1.in1.in1.handled = none := by simp [hh]
        have sz1 : (s.heap.push (set0 w)).objs.size = s.heap.objs.size + 1 := Heap.size_push ..
        have ne1 : l ≠ (s.heap.push (set0 w)).objs.size := by
          rw [sz1]
          exact Nat.ne_of_lt (Nat.lt_succ_of_lt ll)
        refine loop _ (fun s' mv d' => ?_) (Walks.list (prog := P) (w := w) none3 _ l ne1 items).toS
        obtain ⟨h', gens', drawn', tk', os'⟩ := s'
        obtain rfl : gens' = s.gens := mv.gens
        obtain rfl : drawn' = s.drawn := mv.drawn
        obtain rfl : os' = s.os := mv.os
        show wpAny _ _ _ _ _ _
        refine wpAny_pure ?_
        show wpAny _ _ (ret Value.none) _ _ _
        refine wpAny_pure ⟨rfl, h', tk', rfl, d', fun b o e => ?_⟩
        have lb := Heap.lt_size e
        refine mv.heap b o (fun z => ?_) (Heap.get?_push_of_some _ (Heap.get?_push_of_some _ e))
        simp only [List.mem_cons, List.not_mem_nil, or_false] at z
        rcases z with z | z
        · exact Nat.ne_of_lt lb z
        · rw [sz1] at z
          exact Nat.ne_of_lt (Nat.lt_succ_of_lt lb) z
      · cases r₂ with
        | error e => exact hr₂
        | ok fl₂ =>
          cases fl₂ with
          | ret r =>
            obtain ⟨rfl, h', tk, rfl, d', kp⟩ := hr₂
            repeat (any_goals (first | assumption | wp_step))
            exact fin _ _ d' kp
          | _ => exact hr₂.elim
    | _ => exact hr.elim
end
end Ob
/-! part Nz -/
/-! sorted(set(xs)) of moves and of ints. -/
namespace Ob
open PySem L2 PySem.Spec PyProof.Rows

/-! lists in step -/
theorem perm_lift {α β : Type} {f : α → β} {l l' : List β} (p : l.Perm l') : ∀ M : List α, l' = M.map f → ∃ L : List α, l = L.map f ∧ L.Perm M := by
  induction p with
  | nil =>
    intro M e
    cases M with
    | nil => exact ⟨[], rfl, .nil⟩
    | cons m M => cases e
  | cons x p ih =>
    intro M e
    cases M with
    | nil => cases e
    | cons m M =>
      rw [List.map_cons] at e
      injection e with e1 e2
      obtain ⟨L, f1, f2⟩ := ih M e2
      exact ⟨m :: L, by rw [List.map_cons, e1, f1], f2.cons m⟩
  | swap x y l =>
    intro M e
    match M with
    | [] => cases e
    | [m] => cases e
    | m :: m2 :: M =>
      rw [List.map_cons, List.map_cons] at e
      injection e with e1 e2
      injection e2 with e2 e3
      exact ⟨m2 :: m :: M, by rw [List.map_cons, List.map_cons, e1, e2, e3], .swap m m2 M⟩
  | trans p1 p2 ih1 ih2 =>
    intro M e
    obtain ⟨L, f1, f2⟩ := ih2 M e
    obtain ⟨L2, g1, g2⟩ := ih1 L f1
    exact ⟨L2, g1, g2.trans f2⟩
theorem each_fun {α β : Type} {R : α → β → Prop} (g : β → α) : ∀ {l : List β}, (∀ b ∈ l, R (g b) b) → PySem.W.EachIs R (l.map g) l
  | [], _ => .nil
  | b :: l, h => .cons (h b List.mem_cons_self) (each_fun g fun c hc => h c (List.mem_cons_of_mem _ hc))
theorem each_eq {α β : Type} (g : β → α) : ∀ {xs : List α} {l : List β}, PySem.W.EachIs (fun v b => v = g b) xs l → xs = l.map g
  | _, _, .nil => rfl
  | _, _, .cons h t => by rw [List.map_cons, ← h, ← each_eq g t]

section
variable {P : Program} {w : World} {κ : Type} [DecidableEq κ] {N : HeapKind P w κ} {A : Around} {E : Value → Shared → Prop} {s : Shared} {a : Addr} {M : List (κ × Addr)} {es : Array (Int × Value)} {ep : Nat} {t : SetTable}
/-- sorted(x), x a set of keys that read as data -/
theorem sorted_keys (R : SK N s.heap a M es ep t) (hh : A.handled = none) (enc : κ → PyData) (rd : ∀ h : Heap, (∀ b o, s.heap.get? b = some o → h.get? b = some o) → ∀ m ∈ M, Reads h (.ref m.2) (enc m.1) [])
    (al : ∀ m ∈ M, ∀ m2 ∈ M, PySem.W.alike (enc m.1) (enc m2.1) = true) (tu : ∀ m ∈ M, ∃ x r, enc m.1 = .tuple (x :: r)) (dp : ∀ m ∈ M, A.units + 3 + (enc m.1).depth < cLine) {Q : Value → Shared → Prop}
    (hQ : ∀ (s' : Shared) (p : Addr) (L : List (κ × Addr)) (c : Nat), (∀ b o, s.heap.get? b = some o → s'.heap.get? b = some o) → s'.gens = s.gens → s'.os = s.os → s.heap.objs.size ≤ p → s'.heap.get? p = some (seqObj "list" (L.map fun m : κ × Addr => Value.ref m.2).toArray c) → L.Perm M → Q (.ref p) s') :
    wpAny (model P w) A (call (.builtin "sorted") [.ref a]) Q E s := by
  obtain ⟨o, go, gx, gd⟩ := R.obj
  have cap := R.cap
  refine Calls.call_function_entry kind_sorted plain_sorted entry_sorted (args_sorted1 _) ?_
  unfold Builtin.«sorted»
  refine wpAny_bind (m := checkCount "sorted" 1 1 _) (wpAny_pure ?_)
  refine wpAny_bind (collect_set (A := A.in1) hh ⟨o, go, gx.1, gd⟩ R.fit (by rw [R.n]; unfold scanBound; omega) R.tb.ris R.ld fun s1 vs kp sz g1 o1 pm => ?_)
  have e0 : es.toList.map (·.2) = M.map fun m => Value.ref m.2 := by
    rw [R.ent, rws, List.map_map]
    rfl
  rw [e0] at pm
  obtain ⟨L1, rfl, pL⟩ := perm_lift pm M rfl
  have l1 : L1.length = M.length := pL.length_eq
  refine wpAny_bind (wpAny_newList ?_ (by rw [List.length_map, sizeLine_eq]; omega))
  have goL : (s1.heap.push (seqObj "list" (L1.map fun m => Value.ref m.2).toArray 0)).get? s1.heap.objs.size = some (seqObj "list" (L1.map fun m => Value.ref m.2).toArray 0) := Heap.get?_push_size _ rfl
  have inM : ∀ m ∈ L1, m ∈ M := fun m hm => pL.mem_iff.mp hm
  have kp2 : ∀ b u, s.heap.get? b = some u → (s1.heap.push (seqObj "list" (L1.map fun m => Value.ref m.2).toArray 0)).get? b = some u := fun b u e => Heap.get?_push_of_some _ (kp b u e)
  refine wpAny_bind (wpAny_holding (PySem.W.list_sort_data (s := { s1 with heap := s1.heap.push (seqObj "list" (L1.map fun m => Value.ref m.2).toArray 0) }) (bs := L1) (enc := fun m => enc m.1) (R := fun v m => v = Value.ref m.2) goL
    (each_fun _ fun _ _ => rfl) (each_fun _ fun m hm => ⟨[], rd _ kp2 m (inM m hm), by simp⟩) ?_ (.inl ?_) (by rw [l1, sizeLine_eq]; omega) (fun m hm => ?_) fun out _ eo => ?_))
  · intro d hd d2 hd2
    obtain ⟨m, hm, rfl⟩ := List.mem_map.mp hd
    obtain ⟨m2, hm2, rfl⟩ := List.mem_map.mp hd2
    exact al m (inM m hm) m2 (inM m2 hm2)
  · intro d hd
    obtain ⟨m, hm, rfl⟩ := List.mem_map.mp hd
    exact tu m (inM m hm)
  · have h3 := dp m (inM m hm)
    simp only [Around.in1_units]
    omega
  · have eo := each_eq (fun m : κ × Addr => Value.ref m.2) eo
    subst eo
    obtain ⟨c, gc⟩ := sortedHeap_at (out := (List.map (fun m : κ × Addr => Value.ref m.2) (L1.mergeSort (PySem.W.dataLe false fun m => enc m.1))).toArray) goL
    refine wpAny_pure ⟨_, rfl, hQ _ s1.heap.objs.size _ c (fun b u e => ?_) g1 o1 sz gc ((List.mergeSort_perm _ _).trans pL)⟩
    have lb := Heap.lt_size (kp b u e)
    show (sortedHeap _ s1.heap.objs.size _ _).get? b = some u
    rw [sortedHeap_old (Nat.ne_of_lt lb) (by rw [size_push']; exact Nat.lt_succ_of_lt lb)]
    exact kp2 b u e
end

/-! nested keys answer quietly -/
section
variable {P : Program} {w : World}
def NoClass (P : Program) (w : World) (n : Nat) (s : Shared) (v : Value) : Prop := ∀ (A : Around) (E : Value → Shared → Prop) (Q : Bool → Shared → Prop), Q false s → wpAny (model P w) A (ofAClassStatement n v) Q E s
def ByVal (P : Program) (w : World) (n : Nat) (s : Shared) (v : Value) : Prop := ∀ (A : Around) (E : Value → Shared → Prop) (Q : Bool → Shared → Prop), Q true s → wpAny (model P w) A (hashByValue n v) Q E s
theorem noClass_tup {n : Nat} {s : Shared} {a : Addr} {o : Obj} {vs : Array Value} {m : Nat} (go : s.heap.get? a = some o) (gc : o.cls = .type "tuple") (gd : o.data = .seq vs m) (all : ∀ v ∈ vs.toList, NoClass P w n s v) : NoClass P w (n + 1) s (.ref a) := by
  intro A E Q fin
  unfold ofAClassStatement
  refine wpAny_bind (wpAny_typeOf (T := "tuple") ⟨o, go, gc⟩ ?_)
  dsimp only
  have e : (("tuple" : String) == "tuple") = true := by decide
  simp only [e, if_true, Bool.not_true, Bool.false_eq_true, if_false]
  try refine wpAny_bind (wpAny_pure ?_)
  try simp only [Bool.not_true, Bool.false_eq_true, if_false]
  show wpAny _ _ (seqItems? (.ref a) >>= _) _ _ s
  refine wpAny_bind (wpAny_seqItems go gd ?_)
  dsimp only
  refine wpAny_bind ?_
  show wpAny _ _ (forIn vs _ _) _ _ s
  rw [← Array.forIn_toList]
  refine wpAny_forIn_list _ (fun rest r s1 => r.1 = none ∧ s1 = s ∧ ∀ v ∈ rest, NoClass P w n s v) _ ?_ ?_ _ _ ⟨rfl, rfl, all⟩
  · rintro v rest r s1 ⟨hr, rfl, al⟩
    refine wpAny_bind (al v List.mem_cons_self A _ _ ?_)
    simp only [Bool.false_eq_true, if_false]
    exact wpAny_pure ⟨rfl, rfl, fun u hu => al u (List.mem_cons_of_mem _ hu)⟩
  · rintro ⟨r1, r2⟩ s1 ⟨hr, rfl, _⟩
    simp only at hr
    subst hr
    exact wpAny_pure fin
theorem byVal_tup {n : Nat} {s : Shared} {a : Addr} {o : Obj} {vs : Array Value} {m : Nat} (go : s.heap.get? a = some o) (gc : o.cls = .type "tuple") (gd : o.data = .seq vs m) (all : ∀ v ∈ vs.toList, ByVal P w n s v) : ByVal P w (n + 1) s (.ref a) := by
  intro A E Q fin
  have gT : s.TypeIs (.ref a) "tuple" := ⟨o, go, gc⟩
  unfold hashByValue
  refine wpAny_bind (wpAny_specialOf gT F.slot_tuple_hash.lookup ?_)
  show wpAny _ _ (seqItems? (.ref a) >>= _) _ _ s
  refine wpAny_bind (wpAny_seqItems go gd ?_)
  refine wpAny_bind ?_
  show wpAny _ _ (forIn vs _ _) _ _ s
  rw [← Array.forIn_toList]
  refine wpAny_forIn_list _ (fun rest r s1 => r.1 = none ∧ s1 = s ∧ ∀ v ∈ rest, ByVal P w n s v) _ ?_ ?_ _ _ ⟨rfl, rfl, all⟩
  · rintro v rest r s1 ⟨hr, rfl, al⟩
    refine wpAny_bind (al v List.mem_cons_self A _ _ ?_)
    simp only [Bool.not_true, Bool.false_eq_true, if_false]
    exact wpAny_pure ⟨rfl, rfl, fun u hu => al u (List.mem_cons_of_mem _ hu)⟩
  · rintro ⟨r1, r2⟩ s1 ⟨hr, rfl, _⟩
    simp only at hr
    subst hr
    exact wpAny_pure fin
theorem q_atom {n : Nat} {s : Shared} {v : Value} (h1 : ofAClassStatement n v = pure false) (h2 : hashByValue n v = pure true) : NoClass P w n s v ∧ ByVal P w n s v := by
  refine ⟨fun A E Q h => ?_, fun A E Q h => ?_⟩
  · rw [h1]
    exact wpAny_pure h
  · rw [h2]
    exact wpAny_pure h
theorem q_ints {s : Shared} {n : Nat} : ∀ {ns : List Int} {vs : List Value}, NestedAll s.heap (ns.map .num) vs → ∀ v ∈ vs, NoClass P w n s v ∧ ByVal P w n s v
  | [], _, r, v, hv => by
    cases r
    cases hv
  | i :: ns, _, r, v, hv => by
    cases r with
    | cons r1 r2 =>
      cases hv with
      | head => cases r1 <;> cases n <;> exact q_atom rfl rfl
      | tail _ hv => exact q_ints r2 v hv
theorem q_three {s : Shared} {a b : Int} {ns : List Int} {vs : List Value} (r : NestedAll s.heap [.num a, .tup (ns.map .num), .num b] vs) (n : Nat) : ∀ v ∈ vs, NoClass P w (n + 1) s v ∧ ByVal P w (n + 1) s v := by
  intro v hv
  cases r with
  | cons r1 r =>
    cases r with
    | cons r2 r =>
      cases r with
      | cons r3 r =>
        cases r
        cases hv with
        | head => exact q_ints (ns := [a]) (.cons r1 .nil) v List.mem_cons_self
        | tail _ hv =>
          cases hv with
          | head =>
            cases r2 with
            | tup go gc gd r2 => exact ⟨noClass_tup go gc gd fun v hv => (q_ints r2 v hv).1, byVal_tup go gc gd fun v hv => (q_ints r2 v hv).2⟩
          | tail _ hv =>
            cases hv with
            | head => exact q_ints (ns := [b]) (.cons r3 .nil) v List.mem_cons_self
            | tail _ hv => cases hv
theorem q_mv {s : Shared} {m : Mv} {v : Value} (h : NestedIs s.heap (mvK m) v) (n : Nat) : NoClass P w (n + 2) s v ∧ ByVal P w (n + 2) s v := by
  obtain ⟨a, ns, b⟩ := m
  have h : NestedIs s.heap (.tup [.num a, .tup (ns.map .num), .num b]) v := h
  cases h with
  | tup go gc gd r => exact ⟨noClass_tup go gc gd fun v hv => (q_three r n v hv).1, byVal_tup go gc gd fun v hv => (q_three r n v hv).2⟩
/-- the kind of moves -/
def mvKind (P : Program) (w : World) : HeapKind P w NestedKey where
  is := fun h k a => (nestedKind P w).is h k a ∧ ∃ m, k = mvK m
  hash := (nestedKind P w).hash
  draws := (nestedKind P w).draws
  room := (nestedKind P w).room
  inj := fun x y => (nestedKind P w).inj x.1 y.1
  keeps := fun x e d sb => ⟨(nestedKind P w).keeps x.1 e d sb, x.2⟩
  pyHash := fun r x h => (nestedKind P w).pyHash r x.1 h
  eqBool := fun r x y h => (nestedKind P w).eqBool r x.1 y.1 h
  quiet := fun x h => (nestedKind P w).quiet x.1 h
theorem qk_mv : Qk (mvKind P w) where
  st := ⟨fun k x => ⟨nestedKind_stays.stays k x.1, x.2⟩, fun x => nestedKind_stays.tuple x.1⟩
  cls := fun h fin => by
    obtain ⟨⟨h1, _⟩, m, rfl⟩ := h
    exact (q_mv h1 6).1 _ _ _ fin
  val := fun h fin => by
    obtain ⟨⟨h1, _⟩, m, rfl⟩ := h
    exact (q_mv h1 6).2 _ _ _ fin
end

/-! a move as data -/
def encK : NestedKey → PyData := NestedKey.data
theorem datas_nums : ∀ ns : List Int, NestedKey.datas (ns.map .num) = ns.map PyData.int
  | [] => rfl
  | n :: ns => by
    show NestedKey.data (.num n) :: NestedKey.datas (ns.map .num) = _
    rw [datas_nums ns]
    rfl
theorem enc_mv (m : Mv) : encK (mvK m) = .tuple [.int m.1, .tuple (m.2.1.map .int), .int m.2.2] := by
  show PyData.tuple [.int m.1, .tuple (NestedKey.datas (m.2.1.map .num)), .int m.2.2] = _
  rw [datas_nums]
theorem alike_mv (m m2 : Mv) : PySem.W.alike (encK (mvK m)) (encK (mvK m2)) = true := by
  rw [enc_mv, enc_mv]
  simp [PySem.W.alike, PySem.W.alikeAll, PySem.W.alike_ints]
theorem enc_depth (m : Mv) : (encK (mvK m)).depth ≤ 8 := by
  rw [enc_mv]
  simp [PyData.depth, PyData.depthAll, PySem.W.depth_ints]
theorem reads_ints {h : Heap} : ∀ {ns : List Int} {vs : List Value}, Vals (ns.map V.int) vs → ReadsAll h vs (ns.map PyData.int) []
  | [], _, r => by
    cases r
    exact .nil
  | n :: ns, _, r => by
    cases r with
    | cons r1 r2 =>
      obtain ⟨t, rfl⟩ := r1
      exact .cons (as := []) (bs := []) (.int _ _) (reads_ints r2)
theorem reads_mv {X : Cx} {pins : List (Addr × Obj)} {σ : L2.St} {H : Hp} {s : Shared} (I : Inv X pins σ H s) {b : Addr} {m : Mv} (hm : MvAt H b m) {h : Heap} (kp : ∀ c o, s.heap.get? c = some o → h.get? c = some o) : Reads h (.ref b) (encK (mvK m)) [] := by
  obtain ⟨c, h1, h2, _⟩ := hm
  obtain ⟨vs, r, ⟨o, go, gc, _, gd⟩, _⟩ := I.tuple (SqT.of h1)
  obtain ⟨vs2, r2, ⟨o2, go2, gc2, _, gd2⟩, _⟩ := I.tuple (SqT.of h2)
  rw [enc_mv]
  refine .tuple (kp _ _ go) gc gd ?_
  cases r with
  | cons f1 r =>
    cases r with
    | cons f2 r =>
      cases r with
      | cons f3 r =>
        cases r
        obtain ⟨t1, rfl⟩ := f1
        cases f2
        obtain ⟨t3, rfl⟩ := f3
        exact .cons (as := []) (bs := []) (.int _ _) (.cons (as := []) (bs := []) (.tuple (kp _ _ go2) gc2 gd2 (reads_ints r2)) (.cons (as := []) (bs := []) (.int _ _) .nil))
theorem nd_len {α : Type} [DecidableEq α] : ∀ {xs ys : List α}, xs.Nodup → (∀ z ∈ xs, z ∈ ys) → xs.length ≤ ys.length
  | [], _, _, _ => Nat.zero_le _
  | x :: xs, ys, nd, h => by
    obtain ⟨n1, n2⟩ := List.nodup_cons.mp nd
    have hx : x ∈ ys := h x List.mem_cons_self
    have q := nd_len (ys := ys.erase x) n2 fun z hz => by
      have ne : z ≠ x := fun e => n1 (by rw [← e]; exact hz)
      exact (List.mem_erase_of_ne ne).mpr (h z (List.mem_cons_of_mem _ hz))
    rw [List.length_erase_of_mem hx] at q
    have := List.length_pos_of_mem hx
    rw [List.length_cons]
    omega
theorem lift_mem {α β : Type} {f : α → β} {ts : List α} : ∀ M : List β, (∀ m ∈ M, ∃ t ∈ ts, m = f t) → ∃ os : List α, M = os.map f ∧ ∀ o ∈ os, o ∈ ts
  | [], _ => ⟨[], rfl, fun _ h => by cases h⟩
  | m :: M, h => by
    obtain ⟨t, ht, rfl⟩ := h m List.mem_cons_self
    obtain ⟨os, rfl, ho⟩ := lift_mem M fun x hx => h x (List.mem_cons_of_mem _ hx)
    exact ⟨t :: os, rfl, fun o hm => by
      cases hm with
      | head => exact ht
      | tail _ hm => exact ho o hm⟩
theorem ref_vals {α : Type} (g : α → Addr) : ∀ {l : List α} {us : List Value}, Vals (l.map fun t => V.ref (g t)) us → us = l.map fun t => Value.ref (g t)
  | [], _, r => by
    cases r
    rfl
  | t :: l, _, r => by
    cases r with
    | cons f r =>
      cases f
      rw [ref_vals g r]
      rfl
theorem vals_ref {α : Type} (g : α → Addr) : ∀ l : List α, Vals (l.map fun t => V.ref (g t)) (l.map fun t => Value.ref (g t))
  | [] => .nil
  | _ :: l => .cons rfl (vals_ref g l)
/-- a list laid anew, at the end of a call -/
theorem inv_out {X : Cx} {pins : List (Addr × Obj)} {σ : L2.St} {H : Hp} {s s' : Shared} (I : Inv X pins σ H s) {p : Addr} {us : List Value} {xs : List V} {c : Nat} (kp : ∀ b o, s.heap.get? b = some o → s'.heap.get? b = some o) (g : s'.gens = s.gens) (o : s'.os = s.os)
    (hp : s.heap.objs.size ≤ p) (at_ : s'.heap.get? p = some (seqObj "list" us.toArray c)) (r : Vals xs us) (len : xs.length ≤ sizeLine) : Inv X pins σ (upd H p (.lst xs)) s' := by
  have J : Inv X pins σ (upd H p (.lst xs)) { s with heap := s'.heap, gens := s'.gens, drawn := s'.drawn, toks := s'.toks } := I.call (ch := []) (Un.laid kp hp (I.hok.fresh hp)) (I.hok.laid kp hp ⟨len, us, c, r, at_⟩) (by rw [g]; exact I.bare) (fun _ z => nomatch z)
  cases s'
  cases s
  cases o
  exact J
/-- sorted(set(e)): e a list of moves, or of ints -/
def tSset (te : TE) : TE := fun σ H Q => te σ H fun x H1 => ∃ l : Addr, x = .ref l ∧
  ((∃ ts : List (Addr × Mv), H1 l = some (.lst (ts.map fun t => V.ref t.1)) ∧ (∀ t ∈ ts, MvAt H1 t.1 t.2) ∧ ts.length ≤ 12 ∧
      ∀ (os : List (Addr × Mv)) (p : Addr) (H2 : Hp), (os.map (·.2)).Nodup → (∀ o ∈ os, o ∈ ts) → (∀ t ∈ ts, t.2 ∈ os.map (·.2)) → Same H1 H2 → H1 p = none → H2 p = some (.lst (os.map fun t => V.ref t.1)) → Q (.ref p) H2) ∨
   (∃ ns : List Int, H1 l = some (.lst (ns.map V.int)) ∧ ns.length ≤ 12 ∧
      ∀ (os : List Int) (p : Addr) (H2 : Hp), os.Nodup → (∀ z, z ∈ os ↔ z ∈ ns) → Same H1 H2 → H1 p = none → H2 p = some (.lst (os.map V.int)) → Q (.ref p) H2))
theorem same_upd {H : Hp} {p : Addr} (h : H p = none) (o : HO) : Same H (upd H p o) := by
  intro b u e
  unfold upd
  by_cases c : b = p
  · rw [c, h] at e
    cases e
  · rw [if_neg c]
    exact e
theorem pe_sset {W : Wd} {k : Nat} {C : Ctx} {X : Cx} (hX : InC W k C X) (hw : W.Ok) {e : Expr} {te : TE} {p q r s : Pos} (he : PE X e te) (hs : isStar e = false) (g1 : Gl X "sorted") (g2 : Gl X "set") :
    PE X (.Call (.Name "sorted" p) [.Call (.Name "set" q) [e] [] r] [] s) (tSset te) := by
  have un := hX.room.un
  have n1 : X.mg "sorted" = none := by
    rw [hX.mg]
    exact hw.free _ (by decide +kernel)
  have n2 : X.mg "set" = none := by
    rw [hX.mg]
    exact hw.free _ (by decide +kernel)
  refine ⟨fun pins s0 σ H Q I0 h => ?_⟩
  refine Call_ (ld_blt I0 g1 n1 PyProof.Rows.boot_sorted ?_)
  refine PyProof.Rows.callWith_builtin1 (PyProof.Rows.args_cons ?_ rfl) rfl rfl
  refine Call_ (ld_blt I0 g2 n2 PyProof.Rows.boot_set ?_)
  refine PyProof.Rows.callWith_type1 (PyProof.Rows.args_cons (thn (he.run pins s0 σ H _ I0 h) fun v s1 ⟨x, H1, I1, rv, l, ex, fin⟩ => PyProof.Rows.args_nil ?_) (star_no hs [] X.env)) (star_no hs [] X.env) rfl
  subst ex
  cases rv
  have calm := I1.ok.hd hX.calm
  have fresh : s1.heap.get? s1.heap.objs.size = none := by
    cases z : s1.heap.get? s1.heap.objs.size with
    | none => rfl
    | some o => exact absurd (Heap.lt_size z) (Nat.lt_irrefl _)
  have fresh2 : ∀ o, s1.heap.get? (s1.heap.push o).objs.size = none := fun o => by
    cases z : s1.heap.get? (s1.heap.push o).objs.size with
    | none => rfl
    | some o2 =>
      have lt := Heap.lt_size z
      rw [Heap.size_push] at lt
      exact absurd lt (Nat.not_lt_of_le (Nat.le_succ _))
  have notin : ∀ {its : List Value}, s1.heap.IsList l its.toArray → s1.heap.objs.size ∉ [(s1.heap.push (set0 X.w)).objs.size, l] := fun hl z => by
    obtain ⟨o, go, _⟩ := hl
    have lt := Heap.lt_size go
    rw [Heap.size_push] at z
    simp only [List.mem_cons, List.not_mem_nil, or_false] at z
    rcases z with z | z
    · exact Nat.ne_of_lt (Nat.lt_succ_self _) z
    · exact Nat.ne_of_gt lt z
  rcases fin with ⟨ts, hl, hm, few, fin⟩ | ⟨ns, hl, few, fin⟩
  · obtain ⟨its, rv, pl, _⟩ := I1.list (SqL.of hl)
    have eits : its = ts.map fun t => Value.ref t.1 := ref_vals (fun t : Addr × Mv => t.1) rv
    have key : ∀ t ∈ ts, (mvKind X.prog X.w).is s1.heap (mvK t.2) t.1 := fun t ht => ⟨⟨nested_of I1 (hm t ht), mvK_depth _⟩, t.2, rfl⟩
    have keyl : ∀ m ∈ ts.map (fun t => (mvK t.2, t.1)), (mvKind X.prog X.w).is s1.heap m.1 m.2 := fun m h => by
      obtain ⟨t, ht, rfl⟩ := List.mem_map.mp h
      exact key t ht
    refine set_of_list (D := fun h' => ∃ M es ep t, SK (mvKind X.prog X.w) h' s1.heap.objs.size M es ep t ∧ CameIn (ts.map fun t => (mvK t.2, t.1)) its.toArray.size M) calm pl.isList (fun R fin2 Wk => ?_) fun h' tk ⟨M, es, ep, t, K, ci⟩ kp => ?_
    · refine keys_loop qk_mv Wk (notin pl.isList) (l := ts.map fun t => (mvK t.2, t.1)) (by rw [eits]; simp) (by rw [List.length_map]; exact few) (fun i v hv => ?_) keyl fresh (fun b hb => ?_) ?_ its.toArray.size 0 _ (Nat.zero_add _).symm ⟨⟨_, Heap.get?_push_size _ rfl, rfl, rfl⟩, (pl.isList.push _).push _⟩
        (fun b o e => Heap.get?_push_of_some _ (Heap.get?_push_of_some _ e)) ⟨[], #[], 0, _, sk_new (Heap.get?_push_of_some _ (Heap.get?_push_size _ rfl)), fun m h => (by cases h), fun m h => (by cases h), Nat.le_refl _⟩ fun s' mv d => fin2 s' mv d
      · rw [eits] at hv
        have hv : (ts.map fun t => Value.ref t.1)[i]? = some v := by simpa using hv
        rw [List.getElem?_map] at hv ⊢
        cases z : ts[i]? with
        | none =>
          rw [z] at hv
          cases hv
        | some t =>
          rw [z] at hv
          cases hv
          exact ⟨_, rfl, rfl⟩
      · rw [List.mem_singleton.mp hb]
        exact fresh2 _
      · show X.A.in1.in1.in1.units + 8 < cLine
        simp only [Around.in1_units]
        omega
    · have I2 : Inv X pins σ H1 { s1 with heap := h', toks := tk } := I1.kept kp
      have full : its.toArray.size = (ts.map fun t => (mvK t.2, t.1)).length := by
        rw [eits]
        simp
      have from_ : ∀ m ∈ M, ∃ t ∈ ts, m = (mvK t.2, t.1) := fun m hmM => by
        have z := List.mem_of_mem_take (ci.sub m hmM)
        obtain ⟨t, ht, rfl⟩ := List.mem_map.mp z
        exact ⟨t, ht, rfl⟩
      refine PyProof.Rows.args_nil ?_
      refine sorted_keys (s := { s1 with heap := h', toks := tk }) K calm encK (fun h kp2 m hmM => ?_) (fun m h1 m2 h2 => ?_) (fun m h1 => ?_) (fun m h1 => ?_) fun s' p L c kp2 gg oo sz at_ pm => ?_
      · obtain ⟨t, ht, rfl⟩ := from_ m hmM
        exact reads_mv I2 (hm t ht) kp2
      · obtain ⟨t, _, rfl⟩ := from_ m h1
        obtain ⟨t2, _, rfl⟩ := from_ m2 h2
        exact alike_mv _ _
      · obtain ⟨t, _, rfl⟩ := from_ m h1
        exact ⟨_, _, enc_mv _⟩
      · obtain ⟨t, _, rfl⟩ := from_ m h1
        have d8 := enc_depth t.2
        show X.A.units + 3 + (encK (mvK t.2)).depth < cLine
        omega
      · obtain ⟨os, rfl, ho⟩ := lift_mem (f := fun t : Addr × Mv => (mvK t.2, t.1)) L fun m h => from_ m (pm.mem_iff.mp h)
        have fr : H1 p = none := I2.hok.fresh sz
        have few2 : os.length ≤ 12 := by
          have e := pm.length_eq
          have cap := K.cap
          rw [List.length_map] at e
          omega
        rw [List.map_map] at at_
        have e2 : ((fun m : NestedKey × Addr => Value.ref m.2) ∘ fun t : Addr × Mv => (mvK t.2, t.1)) = fun t => Value.ref t.1 := rfl
        rw [e2] at at_
        refine ⟨.ref p, _, inv_out I2 kp2 gg oo sz at_ (vals_ref (fun t : Addr × Mv => t.1) os) (by rw [List.length_map, sizeLine_eq]; omega), rfl, fin os p _ ?_ ho (fun t ht => ?_) (same_upd fr _) fr (by simp [upd])⟩
        · have nd := (pm.map Prod.fst).nodup_iff.mpr K.dst
          rw [List.map_map] at nd
          have e3 : (Prod.fst ∘ fun t : Addr × Mv => (mvK t.2, t.1)) = mvK ∘ fun t => t.2 := rfl
          rw [e3, ← List.map_map] at nd
          exact nodup_of_map nd
        · have z := ci.all (mvK t.2, t.1) (by
            rw [full, List.take_length]
            exact List.mem_map_of_mem ht)
          rw [← (pm.map Prod.fst).mem_iff, List.map_map] at z
          obtain ⟨o, ho2, eo⟩ := List.mem_map.mp z
          refine List.mem_map.mpr ⟨o, ho2, mvK_inj eo⟩
  · obtain ⟨its, rv, pl, _⟩ := I1.list (SqL.of hl)
    have ri : IntsAre its ns := rv.ints
    have nn : its.toArray.size = ns.length := by
      have e := ri.length
      simpa using e
    refine set_of_list (D := fun h' => ∃ c, c ≤ ns.length ∧ SetR X.w h' s1.heap.objs.size (fun j => decide (j ∈ ns)) c) calm pl.isList (fun R fin2 Wk => ?_) fun h' tk ⟨c, hc, K⟩ kp => ?_
    · refine set_update_ints Wk s1.heap.objs.size (notin pl.isList) ns nn (by unfold scanBound; omega) (fun i v hv => ?_) (its.toArray.size - 0) 0 _ rfl (Nat.zero_le _) ⟨⟨_, Heap.get?_push_size _ rfl, rfl, rfl⟩, (pl.isList.push _).push _⟩
        ⟨0, Nat.le_refl 0, setR_new_at (Heap.get?_push_of_some _ (Heap.get?_push_size _ rfl))⟩ fun s' c mv hc K => fin2 s' mv ⟨c, by rw [← nn]; exact hc, K⟩
      have li : i < ns.length := by
        rw [← nn]
        exact (Array.getElem?_eq_some_iff.mp hv).1
      obtain ⟨t, e⟩ := PyProof.Rows.IntsAre.int_at ri i v (by simpa using hv)
      refine ⟨ns[i], t, List.getElem?_eq_getElem li, ?_⟩
      rw [e, List.getD_eq_getElem?_getD, List.getElem?_eq_getElem li]
      rfl
    · have I2 : Inv X pins σ H1 { s1 with heap := h', toks := tk } := I1.kept kp
      refine PyProof.Rows.args_nil ?_
      refine sorted_set (s := { s1 with heap := h', toks := tk }) K calm (by omega) fun s' p out c2 os kp2 gg oo sz at_ io pw mem _ => ?_
      have fr : H1 p = none := I2.hok.fresh sz
      have nd : os.Nodup := pw.imp fun h => Int.ne_of_lt h
      have mem2 : ∀ z, z ∈ os ↔ z ∈ ns := fun z => by
        rw [mem z]
        simp
      have few2 : os.length ≤ ns.length := nd_len nd fun z hz => (mem2 z).mp hz
      refine ⟨.ref p, _, inv_out (us := out.toList) I2 kp2 gg oo sz (by simpa using at_) (vals_of_ints io) (by rw [List.length_map, sizeLine_eq]; omega), rfl, fin os p _ nd mem2 (same_upd fr _) fr (by simp [upd])⟩
end Ob
/-! part Of2 -/
/-! min of two pairs, dict of pairs (move, True), sorted of a set: by values. -/
namespace Ob
open PySem L2

def rDictM (W : Wd) : List V → Hp → VK → Prop := fun vs H Q => ∃ (l : Addr) (ts : List (Addr × Addr × Mv)), vs = [.ref l] ∧ H l = some (.lst (ts.map fun t => V.ref t.1)) ∧
  (∀ t ∈ ts, H t.1 = some (.tup [.ref t.2.1, .bl true]) ∧ MvAt H t.2.1 t.2.2) ∧ (ts.map fun t => t.2.2).Nodup ∧ ts.length ≤ 1000 ∧
  ∀ p, H p = none → ∀ v : Value, Q (.ref p) (upd H p (KeyO W p (ts.map fun t => (t.2.2, t.2.1, v))))
theorem pair_items {X : Cx} {pins : List (Addr × Obj)} {σ : L2.St} {H : Hp} {s : Shared} (I : Inv X pins σ H s) (ts : List (Addr × Addr × Mv)) (hts : ∀ t ∈ ts, H t.1 = some (.tup [.ref t.2.1, .bl true])) {its : List Value} (r : Vals (ts.map fun t => V.ref t.1) its) :
    PairItems s.heap its.toArray (fun j => (ts.getD j (0, 0, (0, [], 0))).1) (ts.map fun t => (Value.ref t.2.1, Value.bool true)) := by
  refine ⟨by have := r.length; simp only [List.length_map] at this ⊢; simp [← this], fun j k v hj => ?_⟩
  rw [List.getElem?_map] at hj
  cases e : ts[j]? with
  | none =>
    rw [e] at hj
    cases hj
  | some t =>
    rw [e] at hj
    cases hj
    have e2 : ts.getD j (0, 0, (0, [], 0)) = t := by
      rw [List.getD_eq_getElem?_getD, e]
      rfl
    simp only [e2]
    obtain ⟨u, h1, h2⟩ := r.get (i := j) (x := V.ref t.1) (by rw [List.getElem?_map, e]; rfl)
    cases h2
    refine ⟨by simpa using h1, .inl ?_⟩
    obtain ⟨its2, r2, ⟨o, ho, hc, n, hd⟩, _⟩ := I.tuple (SqT.of (hts t (List.mem_of_getElem? e)))
    cases r2 with
    | cons a r2 =>
      cases r2 with
      | cons b r2 =>
        cases r2
        cases a
        cases b
        exact ⟨o, ho, hc, n, hd⟩
theorem cr_dictM {W : Wd} {X : Cx} (hc : X.calm = true) (hP : X.prog = W.P) (hw : X.w = W.w) (hu : X.A.units + 65 < cLine) : CallR X (.type "dict") (rDictM W) := by
  intro pins s σ H xs us Q I r h
  obtain ⟨l, ts, rfl, hl, hts, hnd, hlen, k⟩ := h
  cases r with
  | cons a r =>
    cases r
    cases a
    obtain ⟨its, r2, ⟨o, n, ho, hcl, hdi, hda⟩, _⟩ := I.list (SqL.of hl)
    have hpi := pair_items I ts (fun t ht => (hts t ht).1) r2
    have P := PairArg.list (prog := X.prog) (w := X.w) l its.toArray (fun j => (ts.getD j (0, 0, (0, [], 0))).1) (ts.map fun t => (Value.ref t.2.1, Value.bool true))
    have hnd2 : ((ts.map fun t => (mvK t.2.2, t.2.1, Value.bool true)).map (·.1)).Nodup := by
      rw [List.map_map]
      have e : ((fun x : NestedKey × Addr × Value => x.1) ∘ fun t : Addr × Addr × Mv => (mvK t.2.2, t.2.1, Value.bool true)) = mvK ∘ fun t => t.2.2 := rfl
      rw [e, ← List.map_map]
      exact nodup_map (fun a b h => mvK_inj h) hnd
    refine call_dict_pairsH (knd := nestedKind X.prog X.w) (ps := ts.map fun t => (mvK t.2.2, t.2.1, Value.bool true)) P (I.ok.hd hc) (by show X.A.in1.in1.units + 8 < cLine; simp only [Around.in1_units]; omega) ⟨⟨o, n, ho, hcl, hdi, hda⟩, hpi⟩ ?_ ?_ (by rw [List.length_map]; exact Nat.le_trans hlen (by decide)) fun h' tk hd' hk => ?_
    · refine ⟨by rw [List.length_map, List.length_map], fun i key v hr => ?_⟩
      have hr : (ts.map fun t => (Value.ref t.2.1, Value.bool true))[i]? = some (key, v) := hr
      rw [List.getElem?_map] at hr
      cases e : ts[i]? with
      | none =>
        rw [e] at hr
        cases hr
      | some t =>
        rw [e] at hr
        cases hr
        exact ⟨mvK t.2.2, t.2.1, by rw [List.getElem?_map, e]; rfl, rfl⟩
    · intro h' hk x hx
      obtain ⟨t, ht, rfl⟩ := List.mem_map.mp hx
      refine ⟨NestedIs.at (fun b o vs n hb _ => hk b o (Nat.ne_of_lt (Heap.lt_size hb)) (by simp) hb) _ _ (nested_of I (hts t ht).2), mvK_depth _⟩
    · rw [storedAllH_nil_of_nodup _ hnd2] at hd'
      obtain ⟨o2, es, ep, g1, g2, g3, g4, g5, g6⟩ := hd'
      have hkk : ∀ b o, s.heap.get? b = some o → h'.get? b = some o := fun b o e => hk b o (by simp) e
      have hs : (s.heap.objs.size == sysModules) = false := beq_eq_false_iff_ne.mpr (Nat.ne_of_gt I.big)
      refine ⟨.ref s.heap.objs.size, upd H s.heap.objs.size (KeyO W s.heap.objs.size (ts.map fun t => (t.2.2, t.2.1, Value.bool true))), I.laid (o := KeyO W s.heap.objs.size (ts.map fun t => (t.2.2, t.2.1, Value.bool true))) hkk (Nat.le_refl _) ?_, rfl, k _ (I.hok.fresh (Nat.le_refl _)) _⟩
      refine ⟨⟨hs, o2, es, ep, g1, g2, g3, ?_, ?_⟩, ⟨o2, g1⟩, ?_⟩
      · rw [← hP, ← hw, g4, List.map_map, List.map_map, List.map_map]
        rfl
      · rw [List.map_map]
        exact hnd
      · rintro h1 h2 ⟨q1, o3, es3, ep3, q2, q3, q4, q5, q6⟩ hst
        exact ⟨q1, o3, es3, ep3, hst _ q2, q3, q4, q5, q6⟩
section
variable {W : Wd} {k : Nat} {C : Ctx} {l : Dl} {σ : L2.St} {u u1 : Mu} {G G1 H H1 : Hp}
theorem pr_at (s : Same G H) {x : V} {p : Pr} (h : Dat W G x (prD p)) : PrAt H x p := by
  cases h with
  | tup h n r =>
    cases r with
    | cons h1 r =>
      cases r with
      | cons h2 r =>
        cases r
        cases h1
        cases h2 with
        | lst g gn gr =>
          have e := gr.ints
          subst e
          exact ⟨_, _, rfl, s _ _ h, s _ _ g, by simpa using gn⟩
theorem min2_ok (S : StA W G H l u σ) {x y : V} {p q : Pr} {K : Dt → Mu → Prop} {Q : VK} (hx : Dat W G x (prD p)) (hy : Dat W G y (prD q)) (b : K (prD (prMin p q)) u) (c : Cont W l σ u G H K Q) : rMin2 [x, y] H Q := by
  refine ⟨x, y, p, q, rfl, pr_at S.sub hx, pr_at S.sub hy, ?_⟩
  unfold prMin at b
  by_cases h : prLt q p = true
  · rw [if_pos h] at b ⊢
    exact c.at S hy b
  · rw [if_neg h] at b ⊢
    exact c.at S hx b
theorem dictM_ok (S : StA W G H l u σ) {x : V} {ms : List Mv} {K : Dt → Mu → Prop} {Q : VK} (hx : Dat W G x (.lst (ms.map fun m => .tup [mvD m, .bl true]))) (nd : ms.Nodup) (n : ms.length ≤ 1000) (b : K (.keys ms) u) (c : Cont W l σ u G H K Q) :
    rDictM W [x] H Q := by
  have key : ∀ {ms : List Mv} {vs : List V}, DatL W G vs (ms.map fun m => .tup [mvD m, .bl true]) → ∃ ts : List (Addr × Addr × Mv), vs = (ts.map fun t => V.ref t.1) ∧ (ts.map fun t => t.2.2) = ms ∧ ∀ t ∈ ts, G t.1 = some (.tup [.ref t.2.1, .bl true]) ∧ MvAt G t.2.1 t.2.2 := by
    intro ms
    induction ms with
    | nil =>
      intro vs r
      cases r
      exact ⟨[], rfl, rfl, fun t h => by cases h⟩
    | cons m ms ih =>
      intro vs r
      cases r with
      | cons h r =>
        obtain ⟨ts, e1, e2, e3⟩ := ih r
        cases h with
        | tup g gn gr =>
          cases gr with
          | cons h1 gr =>
            cases gr with
            | cons h2 gr =>
              cases gr
              cases h2
              obtain ⟨q, rfl, hq⟩ := mv_at (Same.refl G) h1
              refine ⟨(_, q, m) :: ts, by rw [List.map_cons, e1], by rw [List.map_cons, e2], fun t ht => ?_⟩
              rcases List.mem_cons.mp ht with e | ht
              · rw [e]
                exact ⟨g, hq⟩
              · exact e3 t ht
  cases hx with
  | @lst a vs ds g gn gr =>
    obtain ⟨ts, e1, e2, e3⟩ := key gr
    subst e1
    refine ⟨_, ts, rfl, S.sub _ _ g, fun t ht => ⟨S.sub _ _ (e3 t ht).1, (e3 t ht).2.mono S.sub⟩, by rw [e2]; exact nd, ?_, fun p hp v => ?_⟩
    · have := congrArg List.length e2
      rw [List.length_map] at this
      rw [this]
      exact n
    · obtain ⟨S1, x1⟩ := S.made (o := KeyO W p (ts.map fun t => (t.2.2, t.2.1, v))) hp
      refine c _ _ _ _ _ x1 S1 (.keys upd_same ?_ fun z hz => ?_) b
      · rw [List.map_map]
        exact e2
      · obtain ⟨t, ht, rfl⟩ := List.mem_map.mp hz
        exact (e3 t ht).2.mono x1.g
theorem sset_ok (S : StA W G H l u σ) {x : V} {d : Dt} {K : Dt → Mu → Prop} {Q : VK} (hx : Dat W G x d)
    (b : (∃ ms : List Mv, d = .lst (ms.map mvD) ∧ ms.length ≤ 12 ∧ ∀ os : List Mv, os.Nodup → (∀ z, z ∈ os ↔ z ∈ ms) → K (.lst (os.map mvD)) u) ∨
      ∃ ns : List Int, d = .lst (ns.map .int) ∧ ns.length ≤ 12 ∧ ∀ os : List Int, os.Nodup → (∀ z, z ∈ os ↔ z ∈ ns) → K (.lst (os.map .int)) u) (c : Cont W l σ u G H K Q) :
    ∃ l : Addr, x = .ref l ∧
  ((∃ ts : List (Addr × Mv), H l = some (.lst (ts.map fun t => V.ref t.1)) ∧ (∀ t ∈ ts, MvAt H t.1 t.2) ∧ ts.length ≤ 12 ∧
      ∀ (os : List (Addr × Mv)) (p : Addr) (H2 : Hp), (os.map (·.2)).Nodup → (∀ o ∈ os, o ∈ ts) → (∀ t ∈ ts, t.2 ∈ os.map (·.2)) → Same H H2 → H p = none → H2 p = some (.lst (os.map fun t => V.ref t.1)) → Q (.ref p) H2) ∨
   (∃ ns : List Int, H l = some (.lst (ns.map V.int)) ∧ ns.length ≤ 12 ∧
      ∀ (os : List Int) (p : Addr) (H2 : Hp), os.Nodup → (∀ z, z ∈ os ↔ z ∈ ns) → Same H H2 → H p = none → H2 p = some (.lst (os.map V.int)) → Q (.ref p) H2)) := by
  have fin : ∀ {vs : List V} {ds : List Dt} {p : Addr} {H2 : Hp}, DatL W G vs ds → vs.length ≤ sizeLine → K (.lst ds) u → Same H H2 → H p = none → H2 p = some (.lst vs) → Q (.ref p) H2 := by
    intro vs ds p H2 r n kk s2 hp h2
    have gp : G p = none := free_of S.sub hp
    have g1 : Same G (upd G p (.lst vs)) := same_new gp
    have s1 : Same (upd G p (.lst vs)) H2 := fun b o e => by
      by_cases q : b = p
      · subst q
        rw [upd_same] at e
        cases e
        exact h2
      · rw [upd_ne q] at e
        exact s2 _ _ (S.sub b o e)
    have np : p ∉ adrs u := fun z => by
      obtain ⟨o, ho⟩ := S.mu.inH z
      rw [hp] at ho
      cases ho
    refine c _ _ u (upd G p (.lst vs)) H2 ⟨g1, s1, fun a h => ?_, fun a o h _ => s2 a o h, fun _ h => .inl h⟩ ⟨s1, ⟨S.mu.nd, fun q d hq => ?_⟩, S.len, fun i d h => ?_⟩ (.lst upd_same n (r.mono g1)) kk
    · by_cases q : a = p
      · rw [q]
        exact .inr (.inl hp)
      · rw [upd_ne q] at h
        exact .inl h
    · obtain ⟨h1, h3⟩ := S.mu.at_ q d hq
      obtain ⟨o, ho⟩ := h3.some_
      have ne : q ≠ p := ne_of_none ho hp
      exact ⟨by rw [upd_ne ne]; exact h1, (h3.mono g1).heap ((s2 q o ho).trans ho.symm)⟩
    · obtain ⟨v, h1, h3⟩ := S.sl i d h
      exact ⟨v, h1, h3.mono g1⟩
  rcases b with ⟨ms, rfl, n, b⟩ | ⟨ns, rfl, n, b⟩
  · have key : ∀ {ms : List Mv} {vs : List V}, DatL W G vs (ms.map mvD) → ∃ ts : List (Addr × Mv), vs = (ts.map fun t => V.ref t.1) ∧ (ts.map fun t => t.2) = ms ∧ ∀ t ∈ ts, Dat W G (.ref t.1) (mvD t.2) := by
      intro ms
      induction ms with
      | nil =>
        intro vs r
        cases r
        exact ⟨[], rfl, rfl, fun t h => by cases h⟩
      | cons m ms ih =>
        intro vs r
        cases r with
        | cons h r =>
          obtain ⟨ts, e1, e2, e3⟩ := ih r
          obtain ⟨q, rfl, hq⟩ := mv_at (Same.refl G) h
          refine ⟨(q, m) :: ts, by rw [List.map_cons, e1], by rw [List.map_cons, e2], fun t ht => ?_⟩
          rcases List.mem_cons.mp ht with e | ht
          · rw [e]
            exact h
          · exact e3 t ht
    cases hx with
    | @lst a vs ds g gn gr =>
      obtain ⟨ts, e1, e2, e3⟩ := key gr
      subst e1
      refine ⟨_, rfl, .inl ⟨ts, S.sub _ _ g, fun t ht => ?_, ?_, fun os p H2 h1 h2 h3 h4 h5 h6 => ?_⟩⟩
      · obtain ⟨q, e, hq⟩ := mv_at S.sub (e3 t ht)
        cases e
        exact hq
      · have := congrArg List.length e2
        rw [List.length_map] at this
        rw [this]
        exact n
      · have dl : ∀ {os : List (Addr × Mv)}, (∀ o ∈ os, o ∈ ts) → DatL W G (os.map fun t => V.ref t.1) ((os.map (·.2)).map mvD) := by
          intro os
          induction os with
          | nil => exact fun _ => .nil
          | cons o os ih => exact fun h => .cons (e3 o (h o List.mem_cons_self)) (ih fun z hz => h z (List.mem_cons_of_mem _ hz))
        have len : os.length ≤ 12 := by
          have q1 : (os.map (·.2)).length ≤ (ts.map (·.2)).length := nd_len h1 fun z hz => by
            obtain ⟨o, ho, rfl⟩ := List.mem_map.mp hz
            exact List.mem_map.mpr ⟨o, h2 o ho, rfl⟩
          rw [List.length_map, show (ts.map (·.2)) = ms from e2] at q1
          omega
        refine fin (dl h2) (by rw [List.length_map]; exact lim_le (Nat.le_trans len (by decide))) (b (os.map (·.2)) h1 fun z => ⟨fun hz => ?_, fun hz => ?_⟩) h4 h5 h6
        · obtain ⟨o, ho, rfl⟩ := List.mem_map.mp hz
          rw [← e2]
          exact List.mem_map.mpr ⟨o, h2 o ho, rfl⟩
        · rw [← e2] at hz
          obtain ⟨t, ht, rfl⟩ := List.mem_map.mp hz
          exact h3 t ht
  · cases hx with
    | @lst a vs ds g gn gr =>
      have e := gr.ints
      subst e
      refine ⟨_, rfl, .inr ⟨ns, S.sub _ _ g, n, fun os p H2 h1 h2 h4 h5 h6 => ?_⟩⟩
      have len : os.length ≤ 12 := by
        have q1 : os.length ≤ ns.length := nd_len h1 fun z hz => (h2 z).mp hz
        omega
      exact fin (DatL.of_ints os) (by rw [List.length_map]; exact lim_le (Nat.le_trans len (by decide))) (b os h1 h2) h4 h5 h6
end
end Ob
/-! part Og1 -/
/-! The short text tells what the given text does: targets, walks, comprehensions, cells put to rest, cells lent. -/
namespace Ob
open PySem L2

section
variable {W : Wd} {k : Nat} {C : Ctx} {F : Nat → FS} {l : Dl} {σ : L2.St} {u u1 : Mu} {G G1 H H1 : Hp}

/-! ### names -/
theorem slot_vis {x : Str} {i : Nat} (h : slotOf C x = some i) : C.N[i]? = some x ∧ Vis C.sc x ∧ (x == ("__debug__" : Str)) = false ∧ (x == ("__classdict__" : Str)) = false := by
  unfold slotOf at h
  by_cases q : (isVis C x && plainName x) = true
  · rw [if_pos q] at h
    rw [Bool.and_eq_true] at q
    obtain ⟨q1, q2⟩ := q
    unfold plainName at q2
    simp only [Bool.and_eq_true, Bool.not_eq_true'] at q2
    refine ⟨by simpa using (posOf_get h).2, ?_, q2.1.1, q2.1.2⟩
    unfold isVis at q1
    split at q1
    · exact .inl (by assumption)
    · exact .inr (.inl (by assumption))
    · exact .inr (.inr (by assumption))
    · cases q1
  · rw [if_neg q] at h
    cases h
theorem gl_of {x : Str} (h : isGl C x = true) : C.sc.names.lookup x = some .globalImplicit ∧ (x == ("__debug__" : Str)) = false ∧ x ≠ "__name__" := by
  unfold isGl at h
  rw [Bool.and_eq_true] at h
  obtain ⟨q1, q2⟩ := h
  unfold plainName at q2
  simp only [Bool.and_eq_true, Bool.not_eq_true'] at q2
  exact ⟨of_decide_eq_true q1, q2.1.1, beq_eq_false_iff_ne.mp q2.2⟩
theorem InC.gl {X : Cx} (hX : InC W k C X) {x : Str} (h : isGl C x = true) : Gl X x := by
  show X.env.scope.names.lookup x = some .globalImplicit
  rw [hX.sc]
  exact (gl_of h).1
theorem InC.blt {X : Cx} (hX : InC W k C X) (w : W.Ok) {x : Str} (h : freeNames.contains x = true) : X.mg x = none := by
  rw [hX.mg]
  exact w.free x (List.contains_iff_mem.mp h)

/-! ### targets -/
theorem wipe_set {i : Nat} {x : Option V} : ∀ {vs : List Nat} {σ : L2.St}, i ∈ vs → wipe (σ.set i x) vs = wipe σ vs
  | v :: vs, σ, h => by
    have comm : ∀ (vs : List Nat) (σ : L2.St), i ∉ vs → wipe (σ.set i x) vs = (wipe σ vs).set i x := by
      intro vs
      induction vs with
      | nil => intro σ _; rfl
      | cons w ws ih =>
        intro σ hn
        rw [List.mem_cons, not_or] at hn
        show (wipe (σ.set i x) ws).set w none = ((wipe σ ws).set w none).set i x
        rw [ih σ hn.2, List.set_comm _ _ hn.1]
    show (wipe (σ.set i x) vs).set v none = (wipe σ vs).set v none
    by_cases hv : i ∈ vs
    · rw [wipe_set hv]
    · rcases List.mem_cons.mp h with e | e
      · subst e
        rw [comm vs σ hv, List.set_set]
      · exact absurd e hv
theorem StA.wipe (S : StA W G H l u σ) : ∀ vs : List Nat, StA W G H (wipeD l vs) u (L2.wipe σ vs)
  | [] => S
  | v :: vs => by
    have S1 := S.wipe vs
    refine ⟨S1.sub, S1.mu, by show ((L2.wipe σ vs).set v none).length = ((wipeD l vs).set v none).length; rw [List.length_set, List.length_set, S1.len], fun i d h => ?_⟩
    have h' : ((wipeD l vs).set v none)[i]? = some (some d) := h
    show ∃ w, ((L2.wipe σ vs).set v none)[i]? = some (some w) ∧ Dat W G w d
    by_cases q : v = i
    · subst q
      by_cases lt : v < (wipeD l vs).length
      · rw [List.getElem?_set_self lt] at h'
        cases h'
      · rw [List.getElem?_eq_none (by rw [List.length_set]; omega)] at h'
        cases h'
    · rw [List.getElem?_set_ne q] at h' ⊢
      exact S1.sl i d h'
theorem asg_no {e : Expr} (h : isStar e = false) (es : List Expr) (env : Env) : assignEach (e :: es) env = (false, assign e env) :: assignEach es env := by
  cases e <;> first | rfl | cases h
theorem trG_no : ∀ {n : Nat} {e : Expr} {g : Ex}, trG n C e = some g → isStar e = false
  | 0, _, _, h => by cases h
  | n + 1, e, g, h => by
    cases e <;> first | rfl | cases h
theorem trGs_no : ∀ {n : Nat} {es : List Expr} {g : Ex}, trG.trGs n C es = some g → ∀ env, (assignEach es env).length = es.length ∧ (assignEach es env).findIdx? (·.1) = none
  | 0, _, _, h => by cases h
  | n + 1, [], g, h => fun env => ⟨rfl, rfl⟩
  | n + 1, e :: es, g, h => fun env => by
    unfold trG.trGs at h
    split at h
    · rename_i a b ha hb
      obtain ⟨h1, h2⟩ := trGs_no hb env
      rw [asg_no (trG_no ha)]
      refine ⟨by rw [List.length_cons, List.length_cons, h1], ?_⟩
      rw [List.findIdx?_cons, h2]
      rfl
    · cases h
def GOk (W : Wd) (k : Nat) (C : Ctx) (e : Expr) (g : Ex) : Prop := ∀ (l : Dl) (σ : L2.St) (u : Mu) (G H : Hp) (v : V) (d : Dt) (K : Dl → Prop) (Q : L2.St → Hp → Prop), StA W G H l u σ → Dat W G v d → wpG g d l K →
  (∀ l' σ', StA W G H l' u σ' → K l' → (∀ vs : List Nat, (∀ i ∈ slotsG g, i ∈ vs) → wipe σ' vs = wipe σ vs) → Q σ' H) → WG W k C e v σ H Q
def GsOk (W : Wd) (k : Nat) (C : Ctx) (es : List Expr) (g : Ex) : Prop := ∀ (l : Dl) (σ : L2.St) (u : Mu) (G H : Hp) (vs : List V) (ds : List Dt) (K : Dl → Prop) (Q : L2.St → Hp → Prop), StA W G H l u σ → DatL W G vs ds → wpG.wpGs g ds l K →
  (∀ l' σ', StA W G H l' u σ' → K l' → (∀ vs : List Nat, (∀ i ∈ slotsG g, i ∈ vs) → wipe σ' vs = wipe σ vs) → Q σ' H) → WGs W k C es vs σ H Q
mutual
theorem sndG (hN : C.N.Nodup) : ∀ (n : Nat) (e : Expr) (g : Ex), trG n C e = some g → GOk W k C e g
  | 0, _, _, h => by cases h
  | n + 1, e, g, h => by
    unfold trG at h
    split at h
    · rename_i x p
      split at h
      · rename_i hx
        cases hi : posOf C.N x 0 with
        | none =>
          rw [hi] at h
          cases h
        | some i =>
          rw [hi] at h
          cases h
          have hget : C.N[i]? = some x := by simpa using (posOf_get hi).2
          intro l σ u G H v d K Q S D w c
          refine ⟨gName i, fun X hX => ?_, c _ _ (S.set D) w fun vs hv => wipe_set (hv i List.mem_cons_self)⟩
          have hq : (X.env.scope.names.lookup x = some .local ∨ X.env.scope.names.lookup x = some .cell) ∧ (X.fn x = true ∨ X.env.scope.names.lookup x = some .local) := by
            rw [Bool.or_eq_true] at hx
            rw [hX.sc]
            rcases hx with hx | hx
            · exact ⟨.inl (of_decide_eq_true hx), .inr (of_decide_eq_true hx)⟩
            · rw [Bool.and_eq_true] at hx
              exact ⟨.inr (of_decide_eq_true hx.1), .inl (hX.fn x hx.2)⟩
          exact pg_name (by rw [hX.N]; exact hN) (by rw [hX.N]; exact hget) hq.1 hq.2
      · cases h
    · rename_i es _ _
      cases hs : trG.trGs n C es with
      | none =>
        rw [hs] at h
        cases h
      | some gs =>
        rw [hs] at h
        cases h
        have ih := sndGs hN n es gs hs
        intro l σ u G H v d K Q S D w c
        obtain ⟨ds, rfl, w⟩ := w
        cases D with
        | @tup a vs ds g gn r =>
          refine ⟨gTup W.K es.length (WGs W k C es), fun X hX => ?_, a, vs, rfl, SqT.of (S.sub _ _ g), ?_, ih _ _ _ _ _ _ _ _ _ S r w c⟩
          · rw [← hX.K]
            exact pg_tup hX.calm (pWGs hX) (trGs_no hs _).1 (trGs_no hs _).2
          · have e1 : ds.length = es.length := by
              clear ih c S r g gn
              have key : ∀ (n : Nat) (es : List Expr) (gs : Ex) (ds : List Dt) (l : Dl) (K : Dl → Prop), trG.trGs n C es = some gs → wpG.wpGs gs ds l K → ds.length = es.length := by
                intro n
                induction n with
                | zero => intro es gs ds l K h; cases h
                | succ n ih =>
                  intro es gs ds l K h w
                  cases es with
                  | nil =>
                    cases h
                    rw [w.1]
                    rfl
                  | cons e es =>
                    unfold trG.trGs at h
                    split at h
                    · rename_i a b ha hb
                      cases h
                      obtain ⟨d, r, rfl, w⟩ := w
                      have q : ∀ (g : Ex) (d : Dt) (l : Dl) (P : Dl → Prop), wpG g d l P → ∃ l2, P l2 := by
                        have q2 : ∀ (g : Ex), (∀ (d : Dt) (l : Dl) (P : Dl → Prop), wpG g d l P → ∃ l2, P l2) ∧ (∀ (ds : List Dt) (l : Dl) (P : Dl → Prop), wpG.wpGs g ds l P → ∃ l2, P l2) := by
                          intro g
                          induction g with
                          | slot i => exact ⟨fun d l P w => ⟨_, w⟩, fun ds l P w => w.elim⟩
                          | gTup es ih => exact ⟨fun d l P ⟨_, _, w⟩ => ih.2 _ _ _ w, fun ds l P w => w.elim⟩
                          | nil => exact ⟨fun d l P w => w.elim, fun ds l P w => ⟨_, w.2⟩⟩
                          | cons e es ih1 ih2 => exact ⟨fun d l P w => w.elim, fun ds l P ⟨_, _, _, w⟩ => let ⟨l2, w2⟩ := ih1.1 _ _ _ w; ih2.2 _ _ _ w2⟩
                          | _ => exact ⟨fun d l P w => w.elim, fun ds l P w => w.elim⟩
                        exact fun g => (q2 g).1
                      obtain ⟨l2, w2⟩ := q _ _ _ _ w
                      have := ih es b r l2 K hb w2
                      rw [List.length_cons, List.length_cons, this]
                    · cases h
              exact key n es gs ds l K hs w
            rw [r.length, e1]
    · cases h
theorem sndGs (hN : C.N.Nodup) : ∀ (n : Nat) (es : List Expr) (g : Ex), trG.trGs n C es = some g → GsOk W k C es g
  | 0, _, _, h => by cases h
  | n + 1, [], g, h => by
    cases h
    intro l σ u G H vs ds K Q S D w c
    obtain ⟨e, w⟩ := w
    subst e
    cases D
    exact ⟨gNil, fun X hX => pgs_nil, rfl, c l σ S w fun _ _ => rfl⟩
  | n + 1, e :: es, g, h => by
    unfold trG.trGs at h
    split at h
    · rename_i a b ha hb
      cases h
      have i1 := sndG hN n e a ha
      have i2 := sndGs hN n es b hb
      intro l σ u G H vs ds K Q S D w c
      obtain ⟨d, r, e0, w⟩ := w
      subst e0
      cases D with
      | cons D1 D2 =>
        refine ⟨gCons (WG W k C e) (WGs W k C es), fun X hX => pgs_cons (pWG hX) (pWGs hX) (by rw [asg_no (trG_no ha)]; rfl), _, _, rfl, i1 _ _ _ _ _ _ _ _ _ S D1 w fun l1 σ1 S1 w1 p1 => i2 _ _ _ _ _ _ _ _ _ S1 D2 w1 fun l2 σ2 S2 w2 p2 => c l2 σ2 S2 w2 fun vs hv => ?_⟩
        have s1 : ∀ i ∈ slotsG a, i ∈ vs := fun i hi => hv i (List.mem_append_left _ hi)
        have s2 : ∀ i ∈ slotsG b, i ∈ vs := fun i hi => hv i (List.mem_append_right _ hi)
        rw [p2 vs s2, p1 vs s1]
    · cases h
end
end
end Ob
/-! part Og2 -/
/-! Cells put to rest, cells lent, walks, comprehensions. -/
namespace Ob
open PySem L2

section
variable {W : Wd} {k : Nat} {C : Ctx} {F : Nat → FS} {l : Dl} {σ : L2.St} {u u1 : Mu} {G G1 H H1 : Hp}

/-! ### put to rest -/
theorem fz1_ok (S : StA W G H l u σ) {v : V} {d : Dt} (D : Dat W G v d) : ∃ G', Ext (adrs u) (adrs (fz1 u d).2) G H G' H ∧ StA W G' H l (fz1 u d).2 σ ∧ Dat W G' v (fz1 u d).1 := by
  have same : fz1 u d = (d, u) → ∃ G', Ext (adrs u) (adrs (fz1 u d).2) G H G' H ∧ StA W G' H l (fz1 u d).2 σ ∧ Dat W G' v (fz1 u d).1 := fun e => by
    rw [e]
    exact ⟨G, Ext.refl S.sub, S, D⟩
  cases D with
  | adr p =>
    cases e : get u p with
    | none => exact same (by show (match get u p with | some (.lst ds) => ((.lst ds : Dt), del u p) | _ => (.adr p, u)) = _; rw [e])
    | some c =>
      cases c with
      | ins c fs => exact same (by show (match get u p with | some (.lst ds) => ((.lst ds : Dt), del u p) | _ => (.adr p, u)) = _; rw [e])
      | lst ds =>
        have eq : fz1 u (.adr p) = (.lst ds, del u p) := by
          show (match get u p with | some (.lst ds) => ((.lst ds : Dt), del u p) | _ => (.adr p, u)) = _
          rw [e]
        rw [eq]
        obtain ⟨vs, h1, h2, r⟩ := S.mu.lst e
        obtain ⟨S1, x1⟩ := S.rest (mem_adrs (get_mem e)) h1
        exact ⟨_, x1, S1, .lst upd_same h2 (r.mono x1.g)⟩
  | _ => exact same rfl
theorem fzL_ok : ∀ {ds : List Dt} {vs : List V} {u : Mu} {G : Hp}, StA W G H l u σ → DatL W G vs ds → ∃ G', Ext (adrs u) (adrs (fzL u ds).2) G H G' H ∧ StA W G' H l (fzL u ds).2 σ ∧ DatL W G' vs (fzL u ds).1
  | [], _, u, G, S, .nil => ⟨G, Ext.refl S.sub, S, .nil⟩
  | d :: ds, _, u, G, S, .cons h r => by
    obtain ⟨G1, e1, S1, D1⟩ := fz1_ok S h
    obtain ⟨G2, e2, S2, D2⟩ := fzL_ok S1 (r.mono e1.g)
    exact ⟨G2, e1.trans e2, S2, .cons (D1.mono e2.g) D2⟩
theorem fz2_ok (S : StA W G H l u σ) {v : V} {d : Dt} (D : Dat W G v d) : ∃ G', Ext (adrs u) (adrs (fz2 u d).2) G H G' H ∧ StA W G' H l (fz2 u d).2 σ ∧ Dat W G' v (fz2 u d).1 := by
  have same : fz2 u d = (d, u) → ∃ G', Ext (adrs u) (adrs (fz2 u d).2) G H G' H ∧ StA W G' H l (fz2 u d).2 σ ∧ Dat W G' v (fz2 u d).1 := fun e => by
    rw [e]
    exact ⟨G, Ext.refl S.sub, S, D⟩
  cases D with
  | adr p =>
    cases e : get u p with
    | none => exact same (by show (match get u p with | some (.lst ds) => ((.lst (fzL (del u p) ds).1 : Dt), (fzL (del u p) ds).2) | _ => (.adr p, u)) = _; rw [e])
    | some c =>
      cases c with
      | ins c fs => exact same (by show (match get u p with | some (.lst ds) => ((.lst (fzL (del u p) ds).1 : Dt), (fzL (del u p) ds).2) | _ => (.adr p, u)) = _; rw [e])
      | lst ds =>
        have eq : fz2 u (.adr p) = (.lst (fzL (del u p) ds).1, (fzL (del u p) ds).2) := by
          show (match get u p with | some (.lst ds) => ((.lst (fzL (del u p) ds).1 : Dt), (fzL (del u p) ds).2) | _ => (.adr p, u)) = _
          rw [e]
        rw [eq]
        obtain ⟨vs, h1, h2, r⟩ := S.mu.lst e
        obtain ⟨S1, x1⟩ := S.rest (mem_adrs (get_mem e)) h1
        obtain ⟨G2, x2, S2, D2⟩ := fzL_ok S1 (r.mono x1.g)
        exact ⟨G2, x1.trans x2, S2, .lst (x2.g _ _ upd_same) h2 D2⟩
  | _ => exact same rfl

/-! ### lent -/
def lent (u : Mu) (G H : Hp) : Hp := fun a => if a ∈ adrs u then H a else G a
theorem lent_same (m : MuOk W G H u) : Same G (lent u G H) := fun b o e => by
  unfold lent
  by_cases q : b ∈ adrs u
  · rw [m.notG q] at e
    cases e
  · rw [if_neg q]
    exact e
theorem lent_sub (S : Same G H) : Same (lent u G H) H := fun b o e => by
  unfold lent at e
  by_cases q : b ∈ adrs u
  · rw [if_pos q] at e
    exact e
  · rw [if_neg q] at e
    exact S b o e
mutual
theorem res_ok (m : MuOk W G H u) : ∀ {v : V} {d : Dt}, Dat W G v d → Dat W (lent u G H) v (res u d)
  | _, _, .non => .non
  | _, _, .bl b => .bl b
  | _, _, .int i => .int i
  | _, _, .str x => .str x
  | _, _, .lst h n r => .lst (lent_same m _ _ h) n (resL_ok m r)
  | _, _, .tup h n r => .tup (lent_same m _ _ h) n (resL_ok m r)
  | _, _, .ins c h r => .ins c (lent_same m _ _ h) (resF_ok m r)
  | _, _, .keys h k r => .keys (lent_same m _ _ h) k fun x hx => (r x hx).mono (lent_same m)
  | _, _, .scr h n => .scr ((lent_same m).seq h) n
  | _, _, .adr p => by
    cases e : get u p with
    | none =>
      have eq : res u (.adr p) = .adr p := by simp only [res, e]
      rw [eq]
      exact .adr p
    | some c =>
      cases c with
      | ins c fs =>
        have eq : res u (.adr p) = .adr p := by simp only [res, e]
        rw [eq]
        exact .adr p
      | lst ds =>
        have eq : res u (.adr p) = .lst ds := by simp only [res, e]
        rw [eq]
        obtain ⟨vs, h1, h2, r⟩ := m.lst e
        refine .lst ?_ h2 (r.mono (lent_same m))
        unfold lent
        rw [if_pos (mem_adrs (get_mem e))]
        exact h1
theorem resL_ok (m : MuOk W G H u) : ∀ {vs : List V} {ds : List Dt}, DatL W G vs ds → DatL W (lent u G H) vs (resL u ds)
  | _, _, .nil => .nil
  | _, _, .cons h r => .cons (res_ok m h) (resL_ok m r)
theorem resF_ok (m : MuOk W G H u) : ∀ {vs : List (Str × V)} {ds : List (Nat × Dt)}, DatF W G vs ds → DatF W (lent u G H) vs (resF u ds)
  | _, _, .nil => .nil
  | _, _, .cons l h r => .cons l (res_ok m h) (resF_ok m r)
end
theorem StA.lend (S : StA W G H l u σ) : StA W (lent u G H) H (l.map fun o => o.map (res u)) [] σ := by
  refine ⟨lent_sub S.sub, ⟨List.nodup_nil, fun p c h => by cases h⟩, by rw [List.length_map]; exact S.len, fun i d h => ?_⟩
  rw [List.getElem?_map] at h
  cases e : l[i]? with
  | none =>
    rw [e] at h
    cases h
  | some o =>
    cases o with
    | none =>
      rw [e] at h
      cases h
    | some d0 =>
      rw [e] at h
      cases h
      obtain ⟨v, h1, h2⟩ := S.sl i d0 e
      exact ⟨v, h1, res_ok S.mu h2⟩
theorem scalar_dat {G' : Hp} {v : V} {d : Dt} (D : Dat W G v d) (h : scalar d = true) : Dat W G' v d := by
  cases D with
  | non => exact .non
  | bl b => exact .bl b
  | int i => exact .int i
  | _ => cases h
theorem bor_ok (S : StA W G H l u σ) {K : Dt → Mu → Prop} {Q : VK} (c : Cont W l σ u G H K Q) :
    Cont W (l.map fun o => o.map (res u)) σ [] (lent u G H) H (fun d _ => scalar d = true ∧ K d u) Q := fun v d u' G' H' e S' D k => by
  have s1 : Same H H' := fun a o h => e.fr a o h (by intro z; cases z)
  refine c v d u G H' ⟨Same.refl G, S.sub.trans s1, fun a h => .inl h, fun a o h _ => s1 a o h, fun p h => .inl h⟩ ⟨S.sub.trans s1, ⟨S.mu.nd, fun p c hp => ?_⟩, S.len, S.sl⟩ (scalar_dat D k.1) k.2
  obtain ⟨h1, h2⟩ := S.mu.at_ p c hp
  obtain ⟨o, ho⟩ := h2.some_
  exact ⟨h1, h2.heap ((s1 p o ho).trans ho.symm)⟩

/-! ### walks -/
/-- what is given at a turn: the datum stands, or a new tuple is laid -/
def YD (W : Wd) (G H : Hp) (x : V) (H' : Hp) (d : Dt) : Prop := (H' = H ∧ Dat W G x d) ∨ ∃ T vs ds, x = .ref T ∧ H T = none ∧ H' = upd H T (.tup vs) ∧ vs.length ≤ sizeLine ∧ DatL W G vs ds ∧ d = .tup ds
structure Iter (W : Wd) (J : It) (G : Hp) (ds : List Dt) : Prop where
  ex : ∃ Gp Y, Walk J ds.length Gp Y ∧ (∀ H, Same G H → Gp H) ∧ ∀ i d H x H', ds[i]? = some d → Same G H → Y i H x H' → YD W G H x H' d
def ContI (W : Wd) (l : Dl) (σ : L2.St) (u : Mu) (G H : Hp) (K : List Dt → Mu → Prop) (R : It → Hp → Prop) : Prop := ∀ J ds u' G' H', Ext (adrs u) (adrs u') G H G' H' → StA W G' H' l u' σ → Iter W J G' ds → K ds u' → R J H'
theorem ContI.tr {K : List Dt → Mu → Prop} {R : It → Hp → Prop} (c : ContI W l σ u G H K R) (e : Ext (adrs u) (adrs u1) G H G1 H1) : ContI W l σ u1 G1 H1 K R := fun J ds u' G' H' e2 S I k => c J ds u' G' H' (e.trans e2) S I k
theorem iter_list {a : Addr} {vs : List V} {ds : List Dt} (h : G a = some (.lst vs)) (r : DatL W G vs ds) : Iter W (Itl W.K a) G ds := by
  refine ⟨fun H => SqL W.K H a vs, YAt vs, by rw [← r.length]; exact walk_list, fun H s => SqL.of (s _ _ h), fun i d H x H' hd s y => ?_⟩
  obtain ⟨rfl, hx⟩ := y
  obtain ⟨v, h1, h2⟩ := r.get hd
  rw [hx] at h1
  cases h1
  exact .inl ⟨rfl, h2⟩
theorem iter_tup {a : Addr} {vs : List V} {ds : List Dt} (h : G a = some (.tup vs)) (r : DatL W G vs ds) : Iter W (Itt W.K a) G ds := by
  refine ⟨fun H => SqT W.K H a vs, YAt vs, by rw [← r.length]; exact walk_tup, fun H s => SqT.of (s _ _ h), fun i d H x H' hd s y => ?_⟩
  obtain ⟨rfl, hx⟩ := y
  obtain ⟨v, h1, h2⟩ := r.get hd
  rw [hx] at h1
  cases h1
  exact .inl ⟨rfl, h2⟩
theorem iter_range {lo : Int} {n : Nat} : Iter W (Itr lo n) G ((List.range n).map fun k => .int (lo + (k : Nat))) := by
  refine ⟨fun _ => True, YFn fun i => .int (lo + i), by rw [List.length_map, List.length_range]; exact walk_range, fun _ _ => trivial, fun i d H x H' hd s y => ?_⟩
  obtain ⟨rfl, rfl⟩ := y
  rw [List.getElem?_map] at hd
  by_cases q : i < n
  · rw [List.getElem?_range q] at hd
    cases hd
    exact .inl ⟨rfl, .int _⟩
  · rw [List.getElem?_eq_none (by rw [List.length_range]; omega)] at hd
    cases hd
theorem iter_enum {a : Addr} {vs : List V} {ds : List Dt} (h : G a = some (.lst vs)) (r : DatL W G vs ds) : Iter W (Ite W.K a) G (ds.mapIdx fun i d => .tup [.int (i : Nat), d]) := by
  refine ⟨fun H => SqL W.K H a vs, YPair (fun i => some (.int (i : Nat))) (fun i => vs[i]?), by rw [List.length_mapIdx, ← r.length]; exact walk_enum, fun H s => SqL.of (s _ _ h), fun i d H x H' hd s y => ?_⟩
  obtain ⟨T, x1, x2, rfl, hT, rfl, h1, h2⟩ := y
  cases h1
  rw [List.getElem?_mapIdx] at hd
  cases e : ds[i]? with
  | none =>
    rw [e] at hd
    cases hd
  | some d0 =>
    rw [e] at hd
    cases hd
    obtain ⟨v, h3, h4⟩ := r.get e
    have h5 : some x2 = some v := Eq.trans (Eq.symm h2) h3
    cases h5
    exact .inr ⟨T, _, _, rfl, hT, rfl, lim_le (show 2 ≤ LIM by decide), .cons (.int _) (.cons h4 .nil), rfl⟩
theorem iter_zip {a b : Addr} {vs ws : List V} {ds es : List Dt} (h : G a = some (.tup vs)) (r : DatL W G vs ds) (h2 : G b = some (.tup ws)) (r2 : DatL W G ws es) : Iter W (RZ.ItzT W.K a b) G (List.zipWith (fun x y => .tup [x, y]) ds es) := by
  have wz : Walk (RZ.ItzT W.K a b) (min vs.length ws.length) (fun H => SqT W.K H a vs ∧ SqT W.K H b ws) (YPair (fun i => vs[i]?) (fun i => ws[i]?)) := by
    refine ⟨fun i H hi q => ?_, fun H q => ⟨vs, ws, q.1, q.2, by omega⟩, fun i H v H' _ q y => ?_⟩
    · have l1 : i < vs.length := by omega
      have l2 : i < ws.length := by omega
      exact ⟨vs, ws, vs[i], ws[i], q.1, q.2, List.getElem?_eq_getElem l1, List.getElem?_eq_getElem l2⟩
    · obtain ⟨T, x, z, e1, e2, e3, e4, e5⟩ := y
      exact ⟨T, x, z, e1, e2, e3, e4 vs q.1, e5 ws q.2⟩
  refine ⟨fun H => SqT W.K H a vs ∧ SqT W.K H b ws, _, by rw [List.length_zipWith, ← r.length, ← r2.length]; exact wz, fun H s => ⟨SqT.of (s _ _ h), SqT.of (s _ _ h2)⟩, fun i d H x H' hd s y => ?_⟩
  obtain ⟨T, x1, x2, rfl, hT, rfl, g1, g2⟩ := y
  rw [List.getElem?_zipWith] at hd
  obtain ⟨d1, e1, D1⟩ := r.getV g1
  obtain ⟨d2, e2, D2⟩ := r2.getV g2
  rw [e1, e2] at hd
  cases hd
  exact .inr ⟨T, _, _, rfl, hT, rfl, lim_le (show 2 ≤ LIM by decide), .cons D1 (.cons D2 .nil), rfl⟩
theorem iter_rev {a : Addr} {vs : List V} {ds : List Dt} (h : G a = some (.tup vs)) (r : DatL W G vs ds) : Iter W (RT.ItvT W.K a vs.length) G ds.reverse := by
  have wr : Walk (RT.ItvT W.K a vs.length) vs.length (fun H => SqT W.K H a vs) (fun i H x H' => H' = H ∧ vs[vs.length - 1 - i]? = some x) :=
    ⟨fun i H hi q => ⟨hi, vs, vs[vs.length - 1 - i]'(by omega), q, List.getElem?_eq_getElem _⟩, fun H _ => Nat.le_refl _, fun i H x H' _ q y => ⟨y.1, y.2 vs q⟩⟩
  refine ⟨_, _, by rw [List.length_reverse, ← r.length]; exact wr, fun H s => SqT.of (s _ _ h), fun i d H x H' hd s y => ?_⟩
  obtain ⟨rfl, hx⟩ := y
  have hi : i < ds.length := by
    rw [← List.length_reverse]
    exact (List.getElem?_eq_some_iff.mp hd).1
  rw [List.getElem?_reverse hi] at hd
  obtain ⟨v, h1, h2⟩ := r.get hd
  rw [r.length] at hx
  rw [hx] at h1
  cases h1
  exact .inl ⟨rfl, h2⟩
/-- the state at a turn -/
theorem yd_ok (S : StA W G H l u σ) {x : V} {H' : Hp} {d : Dt} (y : YD W G1 H x H' d) (g : Same G1 G) : ∃ G', Ext (adrs u) (adrs u) G H G' H' ∧ StA W G' H' l u σ ∧ Dat W G' x d := by
  rcases y with ⟨rfl, D⟩ | ⟨T, vs, ds, rfl, hT, rfl, n, r, rfl⟩
  · exact ⟨G, Ext.refl S.sub, S, D.mono g⟩
  · obtain ⟨S1, e1⟩ := S.made (o := .tup vs) hT
    exact ⟨_, e1, S1, .tup upd_same n (r.mono (g.trans e1.g))⟩
end
end Ob
/-! part Og3 -/
/-! The reading of a comprehension, of a for, of a while. -/
namespace Ob
open PySem L2

section
variable {W : Wd} {k : Nat} {C C' : Ctx} {F : Nat → FS} {l : Dl} {σ : L2.St} {u u1 : Mu} {G G0 G1 G' H H0 H1 H' : Hp} {D : Addr} {M M' : List Addr} {vs : List V} {ds : List Dt} {o : HO}
theorem wipe_wipe : ∀ (vs : List Nat) (σ : L2.St), wipe (wipe σ vs) vs = wipe σ vs
  | [], _ => rfl
  | v :: vs, σ => by
    show wipe ((wipe σ vs).set v none) (v :: vs) = (wipe σ vs).set v none
    rw [wipe_set List.mem_cons_self]
    show (wipe (wipe σ vs) vs).set v none = _
    rw [wipe_wipe vs σ]
/-! ### an object of ours beside the cells -/
theorem ext_side (e : Ext M M' G H G' H') (h : H D = none) (g : G' D = none) : Ext M M' G H G' (upd H' D o) :=
  ⟨e.g, fun b x q => by rw [upd_ne (ne_of_none q g)]; exact e.s b x q, e.new, fun a x q m => by rw [upd_ne (ne_of_none q h)]; exact e.fr a x q m, e.ad⟩
theorem mu_side (m : MuOk W G H u) (n : D ∉ adrs u) : MuOk W G (upd H D o) u :=
  ⟨m.nd, fun p c hp => let ⟨h1, h2⟩ := m.at_ p c hp; ⟨h1, h2.heap (upd_ne fun z => n (by rw [← z]; exact mem_adrs hp))⟩⟩
theorem side_go (e : Ext M M' G H G' H') (h : H D = some o) (g : G D = none) (n : D ∉ M) : H' D = some o ∧ G' D = none ∧ D ∉ M' := by
  refine ⟨e.fr D o h n, ?_, fun z => ?_⟩
  · cases q : G' D with
    | none => rfl
    | some x =>
      rcases e.new D (by rw [q]; intro z; cases z) with z | z | z
      · exact absurd g z
      · rw [h] at z
        cases z
      · exact absurd z n
  · rcases e.ad D z with z | z
    · exact n z
    · rw [h] at z
      cases z
theorem side_rest (S : StA W G H l u σ) (hD : H D = some o) (gD : G D = none) (nD : D ∉ adrs u) (e : Ext M (adrs u) G0 H0 G H) (fD : H0 D = none) : StA W (upd G D o) H l u σ ∧ Ext M (adrs u) G0 H0 (upd G D o) H := by
  have g1 : Same G (upd G D o) := same_new gD
  have s1 : Same (upd G D o) H := fun b x q => by
    by_cases z : b = D
    · subst z
      rw [upd_same] at q
      cases q
      exact hD
    · rw [upd_ne z] at q
      exact S.sub b x q
  refine ⟨⟨s1, ⟨S.mu.nd, fun q d hq => ?_⟩, S.len, fun i d h => ?_⟩, ⟨e.g.trans g1, s1, fun a h => ?_, e.fr, e.ad⟩⟩
  · obtain ⟨h1, h2⟩ := S.mu.at_ q d hq
    have ne : q ≠ D := fun z => nD (by rw [← z]; exact mem_adrs hq)
    exact ⟨by rw [upd_ne ne]; exact h1, h2.mono g1⟩
  · obtain ⟨v, h1, h2⟩ := S.sl i d h
    exact ⟨v, h1, h2.mono g1⟩
  · by_cases q : a = D
    · rw [q]
      exact .inr (.inl fD)
    · rw [upd_ne q] at h
      exact e.new a h
theorem side_cell (S : StA W G H l u σ) (hD : H D = some (.lst vs)) (gD : G D = none) (nD : D ∉ adrs u) (e : Ext M (adrs u) G0 H0 G H) (fD : H0 D = none) (n : vs.length ≤ sizeLine) (r : DatL W G vs ds) :
    StA W G H l ((D, .lst ds) :: u) σ ∧ Ext M (adrs ((D, .lst ds) :: u)) G0 H0 G H := by
  refine ⟨⟨S.sub, ⟨List.nodup_cons.mpr ⟨nD, S.mu.nd⟩, fun q c hq => ?_⟩, S.len, S.sl⟩, ⟨e.g, e.s, e.new, e.fr, fun q h => ?_⟩⟩
  · rcases List.mem_cons.mp hq with z | hq
    · cases z
      exact ⟨gD, vs, hD, n, r⟩
    · exact S.mu.at_ q c hq
  · rcases List.mem_cons.mp (show q ∈ D :: adrs u from h) with z | h
    · rw [z]
      exact .inr fD
    · exact e.ad q h

/-! ### a comprehension -/
theorem lc_rd {tg iter elt : Expr} {ifs : List Expr} {own : List Nat} {m : Bool} {g tt te it : Ex} {K : Dt → Mu → Prop} {Q : VK}
    (hI : ∀ (K : List Dt → Mu → Prop) (R : It → Hp → Prop), wpI F it l u K → ContI W l σ u G H K R → WI W k C tg iter σ H R) (hG : GOk W k C' tg g) (hsub : ∀ i ∈ slotsG g, i ∈ own)
    (hF : ∀ (l : Dl) (σ : L2.St) (u : Mu) (G H : Hp) (K : Bool → Mu → Prop) (Q : Bool → Hp → Prop), StA W G H l u σ → wpT F tt l u K → ContB W l σ u G H K Q → WF W k C' ifs σ H Q)
    (hE : ∀ (l : Dl) (σ : L2.St) (u : Mu) (G H : Hp) (K : Dt → Mu → Prop) (Q : VK), StA W G H l u σ → wpE F te l u K → Cont W l σ u G H K Q → WE W k C' elt σ H Q)
    (S : StA W G H l u σ) (w : wpE F (.lc m own te g it tt) l u K) (c : Cont W l σ u G H K Q) : tLc (WI W k C tg iter) (WG W k C' tg) (WF W k C' ifs) (WE W k C' elt) own σ H Q := by
  unfold wpE at w
  refine hI _ _ w fun J ds u1 G1 H1 e1 S1 it1 w1 => ?_
  obtain ⟨nl, I, i0, turn, fin⟩ := w1
  intro D hD
  obtain ⟨Gp, Y, wk, hGp, hY⟩ := it1.ex
  have g1D : G1 D = none := free_of S1.sub hD
  have n1D : D ∉ adrs u1 := fun z => by
    obtain ⟨o, ho⟩ := S1.mu.inH z
    rw [hD] at ho
    cases ho
  refine lc_it wk (Qd := fun H => Q (.ref D) H) (fun i H2 => ∃ G2 u2 acc av, Ext (adrs u1) (adrs u2) G1 H1 G2 H2 ∧ MuOk W G2 H2 u2 ∧ H2 D = some (.lst av) ∧ G2 D = none ∧ D ∉ adrs u2 ∧ DatL W G2 av acc ∧ acc.length ≤ i ∧ I i acc u2)
    ⟨G1, u1, [], [], ext_side (Ext.refl S1.sub) hD g1D, mu_side S1.mu n1D, upd_same, g1D, n1D, .nil, Nat.le_refl _, i0⟩ (fun i H2 _ ⟨G2, u2, acc, av, e2, _⟩ => hGp H2 (e2.g.trans e2.s)) (fun i x H2 H3 hi P y => ?_) fun H2 P => ?_
  · obtain ⟨G2, u2, acc, av, e2, m2, hD2, gD2, nD2, r2, len2, hI2⟩ := P
    have hd : ds[i]? = some ds[i] := List.getElem?_eq_getElem hi
    have S2 : StA W G2 H2 l u2 σ := S1.step e2 m2
    obtain ⟨G3, e3, S3, D3⟩ := yd_ok S2 (hY i _ H2 x H3 hd (e2.g.trans e2.s) y) e2.g
    refine hG _ _ _ _ _ _ _ _ _ (S3.wipe own) D3 (turn i acc u2 _ hd hI2) fun l4 σ4 S4 w4 p4 => ⟨by rw [p4 own hsub, wipe_wipe], hF _ _ _ _ _ _ _ S4 w4 fun b u5 G5 H5 e5 S5 w5 => ?_⟩
    obtain ⟨hD5, gD5, nD5⟩ := side_go (e3.trans e5) hD2 gD2 nD2
    cases b with
    | true =>
      refine hE _ _ _ _ _ _ _ S5 (w5.1 rfl) fun z zd u6 G6 H6 e6 S6 D6 w6 => ?_
      obtain ⟨hD6, gD6, nD6⟩ := side_go e6 hD5 gD5 nD5
      have la : av.length = acc.length := r2.length
      refine ⟨av, hD6, lim_lt (by omega), G6, u6, acc ++ [zd], av ++ [z], ext_side (e2.trans ((e3.trans e5).trans e6)) hD gD6, mu_side S6.mu nD6, upd_same, gD6, nD6, (r2.mono ((e3.trans e5).trans e6).g).append (.cons D6 .nil), ?_, w6⟩
      rw [List.length_append, List.length_singleton]
      omega
    | false => exact ⟨G5, u5, acc, av, e2.trans (e3.trans e5), S5.mu, hD5, gD5, nD5, r2.mono (e3.trans e5).g, by omega, w5.2 rfl⟩
  · obtain ⟨G2, u2, acc, av, e2, m2, hD2, gD2, nD2, r2, len2, hI2⟩ := P
    have S2 : StA W G2 H2 l u2 σ := S1.step e2 m2
    have kk := fin acc u2 hI2
    have la : av.length = acc.length := r2.length
    have ln : av.length ≤ sizeLine := lim_le (by omega)
    cases m with
    | false =>
      obtain ⟨S3, e3⟩ := side_rest S2 hD2 gD2 nD2 e2 hD
      exact c _ _ _ _ _ (e1.trans e3) S3 (.lst upd_same ln (r2.mono (same_new gD2))) kk
    | true =>
      obtain ⟨S3, e3⟩ := side_cell S2 hD2 gD2 nD2 e2 hD ln r2
      exact c _ _ _ _ _ (e1.trans e3) S3 (.adr D) (kk D nD2)

/-! ### statements -/
def ContN (W : Wd) (u : Mu) (G H : Hp) (K : Dl → Mu → Prop) (N : L2.St → Hp → Prop) : Prop := ∀ l' u' σ' G' H', Ext (adrs u) (adrs u') G H G' H' → StA W G' H' l' u' σ' → K l' u' → N σ' H'
def ContR (W : Wd) (u : Mu) (G H : Hp) (K : Dt → Mu → Prop) (R : VK) : Prop := ∀ v d u' G' H', Ext (adrs u) (adrs u') G H G' H' → MuOk W G' H' u' → Dat W G' v d → K d u' → R v H'
theorem ContN.tr {K : Dl → Mu → Prop} {N : L2.St → Hp → Prop} (c : ContN W u G H K N) (e : Ext (adrs u) (adrs u1) G H G1 H1) : ContN W u1 G1 H1 K N := fun l' u' σ' G' H' e2 S k => c l' u' σ' G' H' (e.trans e2) S k
theorem ContR.tr {K : Dt → Mu → Prop} {R : VK} (c : ContR W u G H K R) (e : Ext (adrs u) (adrs u1) G H G1 H1) : ContR W u1 G1 H1 K R := fun v d u' G' H' e2 m D k => c v d u' G' H' (e.trans e2) m D k
def SOk (W : Wd) (k : Nat) (C : Ctx) (F : Nat → FS) (b : List Stmt) (b' : Sx) : Prop := ∀ (l : Dl) (σ : L2.St) (u : Mu) (G H : Hp) (K : Dl → Mu → Prop) (R : Dt → Mu → Prop) (D : Ends), StA W G H l u σ → wpS F b' l u K R → ContN W u G H K D.nx → ContR W u G H R D.rt → WSs W k C b D σ H
theorem for_rd {tg iter : Expr} {body : List Stmt} {g it : Ex} {b : Sx} {K : Dl → Mu → Prop} {R : Dt → Mu → Prop} {D : Ends}
    (hI : ∀ (K : List Dt → Mu → Prop) (R : It → Hp → Prop), wpI F it l u K → ContI W l σ u G H K R → WI W k C tg iter σ H R) (hG : GOk W k C tg g) (hB : SOk W k C F body b)
    (w : wpS F (.forr g it b) l u K R) (cn : ContN W u G H K D.nx) (cr : ContR W u G H R D.rt) : tFor (WI W k C tg iter) (WG W k C tg) (WSs W k C body) D σ H := by
  unfold wpS at w
  refine hI _ _ w fun J ds u1 G1 H1 e1 S1 it1 w1 => ?_
  obtain ⟨I, i0, turn, fin⟩ := w1
  obtain ⟨Gp, Y, wk, hGp, hY⟩ := it1.ex
  refine for_it wk (fun i σ2 H2 => ∃ l2 u2 G2, Ext (adrs u1) (adrs u2) G1 H1 G2 H2 ∧ StA W G2 H2 l2 u2 σ2 ∧ I i l2 u2) ⟨l, u1, G1, Ext.refl S1.sub, S1, i0⟩ (fun i σ2 H2 _ ⟨l2, u2, G2, e2, _⟩ => hGp H2 (e2.g.trans e2.s)) (fun i x σ2 H2 H3 hi P y => ?_) fun σ2 H2 P => ?_
  · obtain ⟨l2, u2, G2, e2, S2, hI2⟩ := P
    have hd : ds[i]? = some ds[i] := List.getElem?_eq_getElem hi
    obtain ⟨G3, e3, S3, D3⟩ := yd_ok S2 (hY i _ H2 x H3 hd (e2.g.trans e2.s) y) e2.g
    refine hG _ _ _ _ _ _ _ _ _ S3 D3 (turn i l2 u2 _ hd hI2) fun l4 σ4 S4 w4 _ => ?_
    exact hB _ _ _ _ _ _ _ _ S4 w4 (fun l5 u5 σ5 G5 H5 e5 S5 i5 => ⟨l5, u5, G5, (e2.trans e3).trans e5, S5, i5⟩) (cr.tr ((e1.trans e2).trans e3))
  · obtain ⟨l2, u2, G2, e2, S2, hI2⟩ := P
    exact cn l2 u2 σ2 G2 H2 (e1.trans e2) S2 (fin l2 u2 hI2)
theorem while_rd {t : Expr} {body : List Stmt} {t' : Ex} {b : Sx} {K : Dl → Mu → Prop} {R : Dt → Mu → Prop} {D : Ends}
    (hT : ∀ (l : Dl) (σ : L2.St) (u : Mu) (G H : Hp) (K : Bool → Mu → Prop) (Q : Bool → Hp → Prop), StA W G H l u σ → wpT F t' l u K → ContB W l σ u G H K Q → WT W k C t σ H Q) (hB : SOk W k C F body b)
    (S : StA W G H l u σ) (w : wpS F (.whil t' b) l u K R) (cn : ContN W u G H K D.nx) (cr : ContR W u G H R D.rt) : tWhile (WT W k C t) (WSs W k C body) D σ H := by
  unfold wpS at w
  obtain ⟨I, ⟨n0, i0⟩, turn⟩ := w
  refine ⟨fun n σ2 H2 => ∃ l2 u2 G2, Ext (adrs u) (adrs u2) G H G2 H2 ∧ StA W G2 H2 l2 u2 σ2 ∧ I n l2 u2, ⟨n0, l, u, G, Ext.refl S.sub, S, i0⟩, fun n σ2 H2 P => ?_⟩
  obtain ⟨l2, u2, G2, e2, S2, i2⟩ := P
  refine hT _ _ _ _ _ _ _ S2 (turn n l2 u2 i2) fun k3 u3 G3 H3 e3 S3 w3 => ?_
  cases k3 with
  | true =>
    refine ⟨fun σ' H' => ∃ m', m' < n ∧ ∃ l2 u2 G2, Ext (adrs u) (adrs u2) G H G2 H' ∧ StA W G2 H' l2 u2 σ' ∧ I m' l2 u2, fun σ' H' z => z, ?_⟩
    refine hB _ _ _ _ _ _ _ _ S3 (w3.1 rfl) (fun l5 u5 σ5 G5 H5 e5 S5 i5 => ?_) (cr.tr (e2.trans e3))
    obtain ⟨n', hn, i5⟩ := i5
    exact ⟨n', hn, l5, u5, G5, (e2.trans e3).trans e5, S5, i5⟩
  | false => exact cn l2 u3 σ2 G3 H3 (e2.trans e3) S3 (w3.2 rfl)
end
end Ob
/-! part Og4 -/
/-! The short expressions tell what the given ones do. -/
namespace Ob
open PySem L2

/-- all of it at fuel n -/
structure Snd (W : Wd) (k : Nat) (F : Nat → FS) (n : Nat) : Prop where
  E : ∀ (C : Ctx) (h : Ht) (esc : Bool) (e : Expr) (e' : Ex), CtxOk W k F C → trE n C h esc e = some e' → ∀ (l : Dl) (σ : L2.St) (u : Mu) (G H : Hp) (K : Dt → Mu → Prop) (Q : VK), StA W G H l u σ → wpE F e' l u K → Cont W l σ u G H K Q → WE W k C e σ H Q
  B : ∀ (C : Ctx) (o : Bool) (es : List Expr) (e' : Ex), CtxOk W k F C → trB n C o es = some e' → ∀ (pos : Pos) (l : Dl) (σ : L2.St) (u : Mu) (G H : Hp) (K : Dt → Mu → Prop) (Q : VK), StA W G H l u σ → wpE F e' l u K → Cont W l σ u G H K Q → WE W k C (.BoolOp (if o then .Or else .And) es pos) σ H Q
  L : ∀ (C : Ctx) (h : Ht) (x : Str) (args : List Expr) (e' : Ex), CtxOk W k F C → isGl C x = true → trC n C h x args = some e' → ∀ (p pos : Pos) (l : Dl) (σ : L2.St) (u : Mu) (G H : Hp) (K : Dt → Mu → Prop) (Q : VK), StA W G H l u σ → wpE F e' l u K → Cont W l σ u G H K Q → WE W k C (.Call (.Name x p) args [] pos) σ H Q
  A : ∀ (C : Ctx) (h : Ht) (i : Nat) (esc : Bool) (es : List Expr) (e' : Ex), CtxOk W k F C → trA n C h i esc es = some e' → ∀ (l : Dl) (σ : L2.St) (u : Mu) (G H : Hp) (K : List Dt → Mu → Prop) (Q : List V → Hp → Prop), StA W G H l u σ → wpA F e' l u K → ContL W l σ u G H K Q → WA W k C es σ H Q
  O : ∀ (C : Ctx) (e : Option Expr) (e' : Ex), CtxOk W k F C → trO n C e = some e' → ∀ (l : Dl) (σ : L2.St) (u : Mu) (G H : Hp) (K : Option Int → Mu → Prop) (Q : Option Int → Hp → Prop), StA W G H l u σ → wpO F e' l u K → ContO W l σ u G H K Q → WO W k C e σ H Q
  T : ∀ (C : Ctx) (e : Expr) (e' : Ex), CtxOk W k F C → trT n C e = some e' → ∀ (l : Dl) (σ : L2.St) (u : Mu) (G H : Hp) (K : Bool → Mu → Prop) (Q : Bool → Hp → Prop), StA W G H l u σ → wpT F e' l u K → ContB W l σ u G H K Q → WT W k C e σ H Q
  U : ∀ (C : Ctx) (o : Bool) (es : List Expr) (e' : Ex), CtxOk W k F C → trU n C o es = some e' → ∀ (pos : Pos) (l : Dl) (σ : L2.St) (u : Mu) (G H : Hp) (K : Bool → Mu → Prop) (Q : Bool → Hp → Prop), StA W G H l u σ → wpT F e' l u K → ContB W l σ u G H K Q → WU W k C (.BoolOp (if o then .Or else .And) es pos) σ H Q
  Fl : ∀ (C : Ctx) (es : List Expr) (e' : Ex), CtxOk W k F C → trF n C es = some e' → ∀ (l : Dl) (σ : L2.St) (u : Mu) (G H : Hp) (K : Bool → Mu → Prop) (Q : Bool → Hp → Prop), StA W G H l u σ → wpT F e' l u K → ContB W l σ u G H K Q → WF W k C es σ H Q
  I : ∀ (C : Ctx) (tg it : Expr) (e' : Ex), CtxOk W k F C → isSet it = false → trI n C tg it = some e' → ∀ (l : Dl) (σ : L2.St) (u : Mu) (G H : Hp) (K : List Dt → Mu → Prop) (R : It → Hp → Prop), StA W G H l u σ → wpI F e' l u K → ContI W l σ u G H K R → WI W k C tg it σ H R
theorem snd_zero {W : Wd} {k : Nat} {F : Nat → FS} : Snd W k F 0 :=
  ⟨fun _ _ _ _ _ _ h => (nomatch h), fun _ _ _ _ _ h => (nomatch h), fun _ _ _ _ _ _ _ h => (nomatch h), fun _ _ _ _ _ _ _ h => (nomatch h), fun _ _ _ _ h => (nomatch h), fun _ _ _ _ h => (nomatch h), fun _ _ _ _ _ h => (nomatch h), fun _ _ _ _ h => (nomatch h), fun _ _ _ _ _ _ h => (nomatch h)⟩

section
variable {W : Wd} {k : Nat} {F : Nat → FS} {n : Nat} {C : Ctx} {l : Dl} {σ : L2.St} {u : Mu} {G H : Hp}
theorem sA (ih : Snd W k F n) (c : CtxOk W k F C) (h : Ht) (i : Nat) (esc : Bool) (es : List Expr) (e' : Ex) (t : trA (n + 1) C h i esc es = some e') (K : List Dt → Mu → Prop) (Q : List V → Hp → Prop) (S : StA W G H l u σ) (w : wpA F e' l u K) (q : ContL W l σ u G H K Q) : WA W k C es σ H Q := by
  unfold trA at t
  split at t
  · cases t
    unfold wpA at w
    exact ⟨tNil, fun X hX => pa_nil, q [] [] u G H (Ext.refl S.sub) S .nil w⟩
  · rename_i e p r
    split at t
    · rename_i a b ha hb
      cases t
      unfold wpA at w
      refine ⟨StX.tStar W.K (WE W k C e) (WA W k C r), fun X hX => ?_, ?_⟩
      · rw [← hX.K]
        exact StX.pa_star (pWE hX) (pWA hX) rfl
      · refine ih.E C .no false e a c ha _ _ _ _ _ _ _ S w fun v d u1 G1 H1 e1 S1 D1 w1 => ?_
        obtain ⟨xs, hx, w1⟩ := w1
        have key : ∃ p vs, v = .ref p ∧ (SqT W.K H1 p vs ∨ SqL W.K H1 p vs) ∧ DatL W G1 vs xs := by
          cases D1 with
          | lst g gn r =>
            cases hx
            exact ⟨_, _, rfl, .inr (SqL.of (S1.sub _ _ g)), r⟩
          | tup g gn r =>
            cases hx
            exact ⟨_, _, rfl, .inl (SqT.of (S1.sub _ _ g)), r⟩
          | _ => cases hx
        obtain ⟨p, vs, rfl, hs, rv⟩ := key
        refine ⟨p, vs, rfl, hs, ih.A C h (i + 1) esc r b c hb _ _ _ _ _ _ _ S1 w1 fun ws ds u2 G2 H2 e2 S2 D2 w2 => ?_⟩
        exact q _ _ _ _ _ (e1.trans e2) S2 ((rv.mono e2.g).append D2) w2
    · cases t
  · rename_i e r hns
    split at t
    · rename_i a b ha hb
      cases t
      unfold wpA at w
      have hs : isStar e = false := by
        cases e <;> first | rfl | exact (hns _ _ rfl).elim
      refine ⟨tCons (WE W k C e) (WA W k C r), fun X hX => pa_cons (pWE hX) (pWA hX) (star_no hs r X.env), ?_⟩
      refine ih.E C (h.kid i) esc e a c ha _ _ _ _ _ _ _ S w fun v d u1 G1 H1 e1 S1 D1 w1 => ?_
      refine ih.A C h (i + 1) esc r b c hb _ _ _ _ _ _ _ S1 w1 fun ws ds u2 G2 H2 e2 S2 D2 w2 => ?_
      exact q _ _ _ _ _ (e1.trans e2) S2 (.cons (D1.mono e2.g) D2) w2
    · cases t
theorem sO (ih : Snd W k F n) (c : CtxOk W k F C) (e : Option Expr) (e' : Ex) (t : trO (n + 1) C e = some e') (K : Option Int → Mu → Prop) (Q : Option Int → Hp → Prop) (S : StA W G H l u σ) (w : wpO F e' l u K) (q : ContO W l σ u G H K Q) : WO W k C e σ H Q := by
  unfold trO at t
  split at t
  · cases t
    unfold wpO at w
    exact ⟨tNoPart, fun X hX => po_none, q none u G H (Ext.refl S.sub) S w⟩
  · rename_i e0
    cases ha : trE n C .no false e0 with
    | none =>
      rw [ha] at t
      cases t
    | some a =>
      rw [ha] at t
      cases t
      unfold wpO at w
      refine ⟨tPart (WE W k C e0), fun X hX => po_some (pWE hX), ?_⟩
      refine ih.E C .no false e0 a c ha _ _ _ _ _ _ _ S w fun v d u1 G1 H1 e1 S1 D1 w1 => ?_
      obtain ⟨i, rfl, w1⟩ := w1
      cases D1
      exact ⟨i, rfl, q _ _ _ _ e1 S1 w1⟩
theorem sB (ih : Snd W k F n) (c : CtxOk W k F C) (o : Bool) (es : List Expr) (e' : Ex) (t : trB (n + 1) C o es = some e') (pos : Pos) (K : Dt → Mu → Prop) (Q : VK) (S : StA W G H l u σ) (w : wpE F e' l u K) (q : Cont W l σ u G H K Q) :
    WE W k C (.BoolOp (if o then .Or else .And) es pos) σ H Q := by
  unfold trB at t
  split at t
  · cases t
  · rename_i a
    exact ⟨WE W k C a, fun X hX => pe_one (pWE hX), ih.E C .no false a e' c t _ _ _ _ _ _ _ S w q⟩
  · rename_i a b r
    split at t
    · rename_i a' b' ha hb
      cases t
      cases o with
      | true =>
        have w : wpE F (.or_ a' b') l u K := w
        unfold wpE at w
        refine ⟨tOrT W.K (WE W k C a) (WE W k C (.BoolOp .Or (b :: r) pos)), fun X hX => ?_, ?_⟩
        · rw [← hX.K]
          exact pe_orT (pWE hX) (pWE hX)
        · refine ih.E C .no false a a' c ha _ _ _ _ _ _ _ S w fun v d u1 G1 H1 e1 S1 D1 w1 => ?_
          obtain ⟨t, ht, w1, w2⟩ := w1
          refine ⟨t, tru_rd S1 D1 ht, ?_⟩
          cases t with
          | true => exact q _ _ _ _ _ e1 S1 D1 (w1 rfl)
          | false => exact ih.B C true (b :: r) b' c hb pos _ _ _ _ _ _ _ S1 (w2 rfl) (q.tr e1)
      | false =>
        have w : wpE F (.and_ a' b') l u K := w
        unfold wpE at w
        refine ⟨tAndT W.K (WE W k C a) (WE W k C (.BoolOp .And (b :: r) pos)), fun X hX => ?_, ?_⟩
        · rw [← hX.K]
          exact pe_andT (pWE hX) (pWE hX)
        · refine ih.E C .no false a a' c ha _ _ _ _ _ _ _ S w fun v d u1 G1 H1 e1 S1 D1 w1 => ?_
          obtain ⟨t, ht, w1, w2⟩ := w1
          refine ⟨t, tru_rd S1 D1 ht, ?_⟩
          cases t with
          | true => exact ih.B C false (b :: r) b' c hb pos _ _ _ _ _ _ _ S1 (w2 rfl) (q.tr e1)
          | false => exact q _ _ _ _ _ e1 S1 D1 (w1 rfl)
    · cases t
theorem sU (ih : Snd W k F n) (c : CtxOk W k F C) (o : Bool) (es : List Expr) (e' : Ex) (t : trU (n + 1) C o es = some e') (pos : Pos) (K : Bool → Mu → Prop) (Q : Bool → Hp → Prop) (S : StA W G H l u σ) (w : wpT F e' l u K) (q : ContB W l σ u G H K Q) :
    WU W k C (.BoolOp (if o then .Or else .And) es pos) σ H Q := by
  unfold trU at t
  split at t
  · cases t
  · rename_i a
    refine ⟨WT W k C a, fun X hX => ?_, ih.T C a e' c t _ _ _ _ _ _ _ S w q⟩
    cases o with
    | true => exact pw_or1 (pWT hX)
    | false => exact pw_and1 (pWT hX)
  · rename_i a b r
    split at t
    · rename_i a' b' ha hb
      cases t
      cases o with
      | true =>
        have w : wpT F (.tor a' b') l u K := w
        unfold wpT at w
        refine ⟨tOr (WT W k C a) (WU W k C (.BoolOp .Or (b :: r) pos)), fun X hX => pw_or (pWT hX) (pWU hX), ?_⟩
        refine ih.T C a a' c ha _ _ _ _ _ _ _ S w fun t u1 G1 H1 e1 S1 w1 => ?_
        cases t with
        | true => exact q _ _ _ _ e1 S1 (w1.1 rfl)
        | false => exact ih.U C true (b :: r) b' c hb pos _ _ _ _ _ _ _ S1 (w1.2 rfl) (q.tr e1)
      | false =>
        have w : wpT F (.tand a' b') l u K := w
        unfold wpT at w
        refine ⟨tAnd (WT W k C a) (WU W k C (.BoolOp .And (b :: r) pos)), fun X hX => pw_and (pWT hX) (pWU hX), ?_⟩
        refine ih.T C a a' c ha _ _ _ _ _ _ _ S w fun t u1 G1 H1 e1 S1 w1 => ?_
        cases t with
        | true => exact ih.U C false (b :: r) b' c hb pos _ _ _ _ _ _ _ S1 (w1.2 rfl) (q.tr e1)
        | false => exact q _ _ _ _ e1 S1 (w1.1 rfl)
    · cases t
theorem sF (ih : Snd W k F n) (c : CtxOk W k F C) (es : List Expr) (e' : Ex) (t : trF (n + 1) C es = some e') (K : Bool → Mu → Prop) (Q : Bool → Hp → Prop) (S : StA W G H l u σ) (w : wpT F e' l u K) (q : ContB W l σ u G H K Q) : WF W k C es σ H Q := by
  unfold trF at t
  split at t
  · cases t
    unfold wpT at w
    exact ⟨tYes, fun X hX => pts_nil, q true u G H (Ext.refl S.sub) S w⟩
  · rename_i a
    exact ⟨WT W k C a, fun X hX => pts_one (pWT hX), ih.T C a e' c t _ _ _ _ _ _ _ S w q⟩
  · cases t
/-- a comparison as a value -/
theorem cmp_rd (ih : Snd W k F n) (c : CtxOk W k F C) {op : CmpOp} {a b : Expr} {a' b' : Ex} (ha : trE n C .no false a = some a') (hb : trE n C .no false b = some b') {K : Dt → Mu → Prop} {Q : VK} (S : StA W G H l u σ)
    (w : wpE F (.cmp op a' b') l u K) (q : ∀ b u' G' H', Ext (adrs u) (adrs u') G H G' H' → StA W G' H' l u' σ → K (.bl b) u' → Q (.bl b) H') : ∃ r : R2, (∀ X, InC W k C X → OpR X (compareOp op) r) ∧ tOp r (WE W k C a) (WE W k C b) σ H Q := by
  obtain ⟨r, hr, ok⟩ := cmp_ok (W := W) (k := k) (C := C) op
  refine ⟨r, hr, ?_⟩
  unfold wpE at w
  refine ih.E C .no false a a' c ha _ _ _ _ _ _ _ S w fun x d u1 G1 H1 e1 S1 D1 w1 => ?_
  refine ih.E C .no false b b' c hb _ _ _ _ _ _ _ S1 w1 fun y e u2 G2 H2 e2 S2 D2 w2 => ?_
  obtain ⟨t, ht, w2⟩ := w2
  exact ok S2.sub S2.mu (D1.mono e2.g) D2 ht (q _ _ _ _ (e1.trans e2) S2 w2)
theorem chain_rd (ih : Snd W k F n) (ct : CtxOk W k F C) {op op2 : CmpOp} {a b c : Expr} {a' b' c' : Ex} (ha : trE n C .no false a = some a') (hb : trE n C .no false b = some b') (hc : trE n C .no false c = some c') {K : Dt → Mu → Prop} {Q : VK} (S : StA W G H l u σ)
    (w : wpE F (.chain op op2 a' b' c') l u K) (q : ∀ b u' G' H', Ext (adrs u) (adrs u') G H G' H' → StA W G' H' l u' σ → K (.bl b) u' → Q (.bl b) H') : ∃ r r2 : R2, (∀ X, InC W k C X → OpR X (compareOp op) r) ∧ (∀ X, InC W k C X → OpR X (compareOp op2) r2) ∧ tChain r r2 (WE W k C a) (WE W k C b) (WE W k C c) σ H Q := by
  obtain ⟨r, hr, ok⟩ := cmp_ok (W := W) (k := k) (C := C) op
  obtain ⟨r2, hr2, ok2⟩ := cmp_ok (W := W) (k := k) (C := C) op2
  refine ⟨r, r2, hr, hr2, ?_⟩
  unfold wpE at w
  refine ih.E C .no false a a' ct ha _ _ _ _ _ _ _ S w fun x d u1 G1 H1 e1 S1 D1 w1 => ?_
  refine ih.E C .no false b b' ct hb _ _ _ _ _ _ _ S1 w1 fun y e u2 G2 H2 e2 S2 D2 w2 => ?_
  obtain ⟨t, ht, w2, w3⟩ := w2
  refine ok S2.sub S2.mu (D1.mono e2.g) D2 ht ⟨t, rfl, ?_⟩
  cases t with
  | true =>
    refine ih.E C .no false c c' ct hc _ _ _ _ _ _ _ S2 (w3 rfl) fun z f u3 G3 H3 e3 S3 D3 w4 => ?_
    obtain ⟨t2, ht2, w4⟩ := w4
    exact ok2 S3.sub S3.mu (D2.mono e3.g) D3 ht2 (q _ _ _ _ ((e1.trans e2).trans e3) S3 w4)
  | false => exact q _ _ _ _ (e1.trans e2) S2 (w2 rfl)
theorem sT (ih : Snd W k F n) (c : CtxOk W k F C) (e : Expr) (e' : Ex) (t : trT (n + 1) C e = some e') (K : Bool → Mu → Prop) (Q : Bool → Hp → Prop) (S : StA W G H l u σ) (w : wpT F e' l u K) (q : ContB W l σ u G H K Q) : WT W k C e σ H Q := by
  unfold trT at t
  split at t
  · rename_i a pos
    cases ha : trT n C a with
    | none =>
      rw [ha] at t
      cases t
    | some a' =>
      rw [ha] at t
      cases t
      unfold wpT at w
      refine ⟨tNot (WT W k C a), fun X hX => pt_not (pWT hX), ?_⟩
      exact ih.T C a a' c ha _ _ _ _ _ _ _ S w fun t u1 G1 H1 e1 S1 w1 => q _ _ _ _ e1 S1 w1
  · rename_i es pos
    exact ⟨WU W k C (.BoolOp .Or es pos), fun X hX => (pWU hX).pt, ih.U C true es e' c t pos _ _ _ _ _ _ _ S w q⟩
  · rename_i es pos
    exact ⟨WU W k C (.BoolOp .And es pos), fun X hX => (pWU hX).pt, ih.U C false es e' c t pos _ _ _ _ _ _ _ S w q⟩
  · rename_i a op b pos
    split at t
    · cases t
    · rename_i hm
      split at t
      · rename_i a' b' ha hb
        cases t
        unfold wpT at w
        obtain ⟨r, hr, rd⟩ := cmp_rd ih c ha hb S w (Q := fun z H' => ∃ t, z = .bl t ∧ Q t H') (fun b u1 G1 H1 e1 S1 w1 => by
          obtain ⟨t, ht, w1⟩ := w1
          cases ht
          exact ⟨_, rfl, q _ _ _ _ e1 S1 w1⟩)
        exact ⟨tTest (tOp r (WE W k C a) (WE W k C b)), fun X hX => pt_cmpR (hr X hX) (pWE hX) (pWE hX) (by simpa using hm), rd⟩
      · cases t
  · rename_i a op op2 b d pos
    split at t
    · cases t
    · rename_i hm
      split at t
      · rename_i a' b' d' ha hb hd
        cases t
        unfold wpT at w
        obtain ⟨r, r2, hr, hr2, rd⟩ := chain_rd ih c ha hb hd S w (Q := fun z H' => ∃ t, z = .bl t ∧ Q t H') (fun b u1 G1 H1 e1 S1 w1 => by
          obtain ⟨t, ht, w1⟩ := w1
          cases ht
          exact ⟨_, rfl, q _ _ _ _ e1 S1 w1⟩)
        exact ⟨tTest (tChain r r2 (WE W k C a) (WE W k C b) (WE W k C d)), fun X hX => pt_chain (hr X hX) (hr2 X hX) (pWE hX) (pWE hX) (pWE hX) (by simpa using hm), rd⟩
      · cases t
  · split at t
    · rename_i hv
      cases ha : trE n C .no false e with
      | none =>
        rw [ha] at t
        cases t
      | some a' =>
        rw [ha] at t
        cases t
        unfold wpT at w
        refine ⟨fun σ H Q => WE W k C e σ H fun x H' => ∃ t, TruV W.K x H' t ∧ Q t H', fun X hX => ?_, ?_⟩
        · rw [← hX.K]
          exact pt_truth (pWE hX) (by cases e <;> first | (intro _; rfl) | cases hv)
        · refine ih.E C .no false e a' c ha _ _ _ _ _ _ _ S w fun v d u1 G1 H1 e1 S1 D1 w1 => ?_
          obtain ⟨t, ht, w1⟩ := w1
          exact ⟨t, tru_rd S1 D1 ht, q _ _ _ _ e1 S1 w1⟩
    · cases t
end
end Ob
/-! part Og5 -/
/-! The short expressions tell what the given ones do: walks, calls. -/
namespace Ob
open PySem L2

section
variable {W : Wd} {k : Nat} {F : Nat → FS} {n : Nat} {C : Ctx} {l : Dl} {σ : L2.St} {u : Mu} {G H : Hp}
theorem any1 {e : Expr} (h : isStar e = false) (pos : Pos) (env : Env) : (backTo pos (starEach [] env)).any (·.1) = false := rfl
theorem iSeq_rd (ih : Snd W k F n) (c : CtxOk W k F C) {tg e : Expr} {e' : Ex} {hh : Ht} {ec : Bool} (t : trE n C hh ec e = some e') {K : List Dt → Mu → Prop} {R : It → Hp → Prop} (S : StA W G H l u σ) (w : wpI F (.iSeq e') l u K) (q : ContI W l σ u G H K R) : WI W k C tg e σ H R := by
  unfold wpI at w
  refine ⟨iAny W.K (WE W k C e), fun X hX => ?_, ?_⟩
  · rw [← hX.K]
    exact pi_any (pWE hX)
  · refine ih.E C hh ec e e' c t _ _ _ _ _ _ _ S w fun v d u1 G1 H1 e1 S1 D1 w1 => ?_
    obtain ⟨ds, hd, w1⟩ := w1
    cases D1 with
    | lst g gn r =>
      cases hd
      exact ⟨_, rfl, .inl ⟨⟨_, SqL.of (S1.sub _ _ g)⟩, q _ _ _ _ _ e1 S1 (iter_list g r) w1⟩⟩
    | tup g gn r =>
      cases hd
      exact ⟨_, rfl, .inr ⟨⟨_, SqT.of (S1.sub _ _ g)⟩, q _ _ _ _ _ e1 S1 (iter_tup g r) w1⟩⟩
    | _ => cases hd
theorem isTuple_ex {e : Expr} (h : isTuple e = true) : ∃ es k p, e = .Tuple es k p := by
  cases e <;> first | exact ⟨_, _, _, rfl⟩ | cases h
theorem sI (ih : Snd W k F n) (c : CtxOk W k F C) (tg it : Expr) (e' : Ex) (hset : isSet it = false) (t : trI (n + 1) C tg it = some e') (K : List Dt → Mu → Prop) (R : It → Hp → Prop) (S : StA W G H l u σ) (w : wpI F e' l u K) (q : ContI W l σ u G H K R) : WI W k C tg it σ H R := by
  have one : ∀ {e : Expr}, (trE n C .no true e).map Ex.iSeq = some e' → WI W k C tg e σ H R := fun {e} t => by
    cases ha : trE n C .no true e with
    | none =>
      rw [ha] at t
      cases t
    | some a =>
      rw [ha] at t
      cases t
      exact iSeq_rd ih c ha S w q
  unfold trI at t
  split at t
  · rename_i x p a pos
    split at t
    · cases t
    · rename_i hs
      have hs : isStar a = false := by simpa using hs
      split at t
      · rename_i hx
        rw [Bool.and_eq_true] at hx
        obtain ⟨hg, hx⟩ := hx
        obtain rfl : x = "range" := of_decide_eq_true hx
        cases ha : trE n C .no false a with
        | none =>
          rw [ha] at t
          cases t
        | some a' =>
          rw [ha] at t
          cases t
          unfold wpI at w
          refine ⟨iRng1 (tCons (WE W k C a) tNil), fun X hX => pi_range1 (hX.gl hg) (hX.blt c.w (by decide +kernel)) (pa_cons (pWE hX) pa_nil (star_no hs [] X.env)) (star_no hs [] X.env), ?_⟩
          refine ih.E C .no false a a' c ha _ _ _ _ _ _ _ S w fun v d u1 G1 H1 e1 S1 D1 w1 => ?_
          obtain ⟨i, rfl, h0, h1, w1⟩ := w1
          cases D1
          refine ⟨i, rfl, by omega, by omega, q _ _ _ _ _ e1 S1 ?_ w1⟩
          have := iter_range (W := W) (G := G1) (lo := 0) (n := i.toNat)
          simpa using this
      · split at t
        · rename_i hx
          rw [Bool.and_eq_true] at hx
          obtain ⟨hg, hx⟩ := hx
          obtain rfl : x = "enumerate" := of_decide_eq_true hx
          split at t
          · rename_i ht
            obtain ⟨es, kk, tp, rfl⟩ := isTuple_ex ht
            cases ha : trE n C .no false a with
            | none =>
              rw [ha] at t
              cases t
            | some a' =>
              rw [ha] at t
              cases t
              unfold wpI at w
              refine ⟨iEnum W.K (tCons (WE W k C a) tNil), fun X hX => ?_, ?_⟩
              · rw [← hX.K]
                exact pi_enum (hX.gl hg) (hX.blt c.w (by decide +kernel)) (pa_cons (pWE hX) pa_nil (star_no hs [] X.env)) (star_no hs [] X.env)
              · refine ih.E C .no false a a' c ha _ _ _ _ _ _ _ S w fun v d u1 G1 H1 e1 S1 D1 w1 => ?_
                obtain ⟨ds, rfl, w1⟩ := w1
                cases D1 with
                | lst g gn r => exact ⟨_, _, rfl, SqL.of (S1.sub _ _ g), q _ _ _ _ _ e1 S1 (iter_enum g r) w1⟩
          · cases t
        · split at t
          · rename_i hx
            rw [Bool.and_eq_true] at hx
            obtain ⟨hg, hx⟩ := hx
            obtain rfl : x = "reversed" := of_decide_eq_true hx
            cases ha : trE n C .no false a with
            | none =>
              rw [ha] at t
              cases t
            | some a' =>
              rw [ha] at t
              cases t
              unfold wpI at w
              refine ⟨RT.iRevA W.K (WE W k C a), fun X hX => ?_, ?_⟩
              · rw [← hX.K]
                exact RT.pi_revA (hX.gl hg) (hX.blt c.w (by decide +kernel)) (pWE hX) (star_no hs [] X.env)
              · refine ih.E C .no false a a' c ha _ _ _ _ _ _ _ S w fun v d u1 G1 H1 e1 S1 D1 w1 => ?_
                obtain ⟨ds, rfl, w1⟩ := w1
                cases D1 with
                | tup g gn r => exact ⟨_, _, rfl, .inr ⟨SqT.of (S1.sub _ _ g), q _ _ _ _ _ e1 S1 (iter_rev g r) w1⟩⟩
          · exact one t
  · rename_i x p a b pos
    split at t
    · cases t
    · rename_i hs
      have hs : isStar a = false ∧ isStar b = false := by
        cases h1 : isStar a <;> cases h2 : isStar b <;> simp [h1, h2] at hs ⊢
      have st2 : ∀ env, starEach [a, b] env = (false, eval a env) :: [(false, eval b env)] := fun env => by
        rw [star_no hs.1, star_no hs.2]
        rfl
      split at t
      · rename_i hx
        rw [Bool.and_eq_true] at hx
        obtain ⟨hg, hx⟩ := hx
        obtain rfl : x = "range" := of_decide_eq_true hx
        split at t
        · rename_i a' b' ha hb
          cases t
          unfold wpI at w
          refine ⟨iRng2 (tCons (WE W k C a) (tCons (WE W k C b) tNil)), fun X hX => pi_range2 (hX.gl hg) (hX.blt c.w (by decide +kernel)) (pa_cons (pWE hX) (pa_cons (pWE hX) pa_nil (star_no hs.2 [] X.env)) (star_no hs.1 [b] X.env)) (st2 X.env) (star_no hs.2 [] X.env), ?_⟩
          refine ih.E C .no false a a' c ha _ _ _ _ _ _ _ S w fun v d u1 G1 H1 e1 S1 D1 w1 => ?_
          refine ih.E C .no false b b' c hb _ _ _ _ _ _ _ S1 w1 fun v2 d2 u2 G2 H2 e2 S2 D2 w2 => ?_
          obtain ⟨i, j, rfl, rfl, h1, h2, h3, h4, w2⟩ := w2
          cases D1
          cases D2
          exact ⟨i, j, rfl, ⟨by omega, by omega, by omega, by omega⟩, q _ _ _ _ _ (e1.trans e2) S2 iter_range w2⟩
        · cases t
      · split at t
        · rename_i hx
          rw [Bool.and_eq_true] at hx
          obtain ⟨hg, hx⟩ := hx
          obtain rfl : x = "zip" := of_decide_eq_true hx
          split at t
          · rename_i ht
            obtain ⟨es, kk, tp, rfl⟩ := isTuple_ex ht
            split at t
            · rename_i a' b' ha hb
              cases t
              unfold wpI at w
              refine ⟨RZ.iZipA W.K (tCons (WE W k C a) (tCons (WE W k C b) tNil)), fun X hX => ?_, ?_⟩
              · rw [← hX.K]
                exact RZ.pi_zipA (hX.gl hg) (hX.blt c.w (by decide +kernel)) (pa_cons (pWE hX) (pa_cons (pWE hX) pa_nil (star_no hs.2 [] X.env)) (star_no hs.1 [b] X.env)) (star_no hs.1 [b] X.env) (star_all (by rw [List.any_cons, hs.2]; rfl) _ _)
              · refine ih.E C .no false a a' c ha _ _ _ _ _ _ _ S w fun v d u1 G1 H1 e1 S1 D1 w1 => ?_
                refine ih.E C .no false b b' c hb _ _ _ _ _ _ _ S1 w1 fun v2 d2 u2 G2 H2 e2 S2 D2 w2 => ?_
                obtain ⟨ds, es, rfl, rfl, w2⟩ := w2
                have D1 := D1.mono e2.g
                cases D1 with
                | tup g gn r =>
                  cases D2 with
                  | tup g2 gn2 r2 => exact ⟨_, _, _, _, rfl, .inr ⟨SqT.of (S2.sub _ _ g), SqT.of (S2.sub _ _ g2), q _ _ _ _ _ (e1.trans e2) S2 (iter_zip g r g2 r2) w2⟩⟩
            · cases t
          · cases t
        · exact one t
  · exact one t

/-! ### calls -/
theorem ret_ok {K : Dt → Mu → Prop} {Q : VK} (q : Cont W l σ u G H K Q) (S : StA W G H l u σ) : ∀ v d u' G' H', Ext (adrs u) (adrs u') G H G' H' → MuOk W G' H' u' → Dat W G' v d → K d u' → Q v H' :=
  fun v d u' G' H' e m D k => q v d u' G' H' e (S.step e m) D k
theorem star_cons {a : Expr} {r : List Expr} (h : (a :: r).any isStar = false) : isStar a = false ∧ r.any isStar = false := by
  rw [List.any_cons, Bool.or_eq_false_iff] at h
  exact h
theorem fn_rd (ih : Snd W k F n) (c : CtxOk W k F C) {x : Str} {args : List Expr} {as : Ex} {j : Nat} {hh : Ht} {ec : Bool} (hg : isGl C x = true) (hj : C.fns.lookup x = some j) (hst : args.any isStar = false) (hne : args.isEmpty = false) (ha : trA n C hh 0 ec args = some as)
    (p pos : Pos) {K : Dt → Mu → Prop} {Q : VK} (S : StA W G H l u σ) (w : wpE F (.call j as) l u K) (q : Cont W l σ u G H K Q) : WE W k C (.Call (.Name x p) args [] pos) σ H Q := by
  obtain ⟨f, fd, ps, hm, hk, hb, hF⟩ := c.fns x j hj
  cases args with
  | nil => cases hne
  | cons a r =>
    obtain ⟨h1, h2⟩ := star_cons hst
    refine ⟨tCall (spF W (F j)) [] E0 (WA W k C (a :: r)), fun X hX => ?_, ?_⟩
    · have hF' : FnOk X.prog X.w X.K X.mg X.base CX0 k f fd ps (spF W (F j)) := by
        rw [hX.P, hX.w, hX.K, hX.mg, hX.base]
        exact hF
      exact pe_call hF' hX.room (hX.gl hg) (by rw [hX.mg]; exact hm) (by rw [hX.K]; exact hk) (by rw [hX.K]; exact hb) .nil pass0 (pWA hX) (gl_of hg).2.1 (star_no h1 r X.env) (star_all h2 pos X.env)
    · unfold wpE at w
      refine ih.A C hh 0 ec (a :: r) as c ha _ _ _ _ _ _ _ S w fun vs ds u1 G1 H1 e1 S1 D1 w1 => ?_
      refine ⟨G1, ds, u1, K, S1.sub, ?_, S1.mu, w1, ret_ok (q.tr e1) S1⟩
      rw [List.append_nil]
      exact D1
theorem nw_rd (ih : Snd W k F n) (ct : CtxOk W k F C) {x : Str} {args : List Expr} {as : Ex} {c j : Nat} (hg : isGl C x = true) (hj : C.cls.lookup x = some (c, j)) (hst : args.any isStar = false) (hne : args.isEmpty = false) (ha : trA n C .no 0 false args = some as)
    (p pos : Pos) {K : Dt → Mu → Prop} {Q : VK} (S : StA W G H l u σ) (w : wpE F (.new c j as) l u K) (q : Cont W l σ u G H K Q) : WE W k C (.Call (.Name x p) args [] pos) σ H Q := by
  obtain ⟨lc, f, fd, ps, k', hk, hm, hM, hb, hF⟩ := ct.cls x c j hj
  cases args with
  | nil => cases hne
  | cons a r =>
    obtain ⟨h1, h2⟩ := star_cons hst
    refine ⟨tMake (W.cl c) (spF W (F j)) [] E0 (WA W k C (a :: r)), fun X hX => ?_, ?_⟩
    · have hF' : FnOk X.prog X.w X.K X.mg X.base CX0 k' f fd ps (spF W (F j)) := by
        rw [hX.P, hX.w, hX.K, hX.mg, hX.base]
        exact hF
      exact pe_make (by rw [hX.K]; exact hM) hF' (hX.room.mono hk) (hX.gl hg) (by rw [hX.mg]; exact hm) (by rw [hX.K]; exact hb) .nil pass0 (pWA hX) (gl_of hg).2.1 (star_no h1 r X.env) (star_all h2 pos X.env)
    · unfold wpE at w
      refine ih.A C .no 0 false (a :: r) as ct ha _ _ _ _ _ _ _ S w fun vs ds u1 G1 H1 e1 S1 D1 w1 => ?_
      intro x dx hx hdx ne
      have gx : G1 x = none := free_of S1.sub hx
      have nx : x ∉ adrs u1 := fun z => by
        obtain ⟨o, ho⟩ := S1.mu.inH z
        rw [hx] at ho
        cases ho
      have at_ : ∀ b o, H1 b = some o → upd (upd H1 dx (.own x)) x (.ins (W.cl c) dx []) b = some o := fun b o h => by
        rw [upd_ne (ne_of_none h hx), upd_ne (ne_of_none h hdx)]
        exact h
      have s2 : Same G1 (upd (upd H1 dx (.own x)) x (.ins (W.cl c) dx [])) := fun b o h => at_ b o (S1.sub b o h)
      have m2 : MuOk W G1 (upd (upd H1 dx (.own x)) x (.ins (W.cl c) dx [])) ((x, .ins c []) :: u1) := by
        refine ⟨List.nodup_cons.mpr ⟨nx, S1.mu.nd⟩, fun p d hp => ?_⟩
        rcases List.mem_cons.mp hp with e | hp
        · cases e
          exact ⟨gx, lc, dx, [], upd_same, .nil⟩
        · obtain ⟨g1, g2⟩ := S1.mu.at_ p d hp
          obtain ⟨o, ho⟩ := g2.some_
          exact ⟨g1, g2.heap ((at_ p o ho).trans ho.symm)⟩
      have e2 : Ext (adrs u1) (adrs ((x, .ins c []) :: u1)) G1 H1 G1 (upd (upd H1 dx (.own x)) x (.ins (W.cl c) dx [])) := by
        refine ⟨Same.refl G1, s2, fun a h => .inl h, fun a o h _ => at_ a o h, fun p hp => ?_⟩
        rcases List.mem_cons.mp (show p ∈ x :: adrs u1 from hp) with z | hp
        · rw [z]
          exact .inr hx
        · exact .inl hp
      refine ⟨G1, .adr x :: ds, (x, .ins c []) :: u1, _, s2, ?_, m2, w1 x nx, fun v d u2 G2 H2 e3 m3 D3 w3 => ?_⟩
      · rw [List.append_nil]
        exact .cons (.adr x) D1
      · obtain ⟨rfl, fs, hfs, w3⟩ := w3
        have hv : v = .non := by
          cases D3
          rfl
        refine ⟨hv, ?_⟩
        have S2 : StA W G2 H2 l u2 σ := S1.step (e2.trans e3) m3
        obtain ⟨_, _, dx2, vs2, g1, g2⟩ := m3.get hfs
        obtain ⟨S3, e4⟩ := S2.rest (mem_adrs (get_mem hfs)) g1
        exact q _ _ _ _ _ (((e1.trans e2).trans e3).trans e4) S3 (.ins lc upd_same (g2.mono e4.g)) w3
end
end Ob
/-! part Og6 -/
/-! The short expressions tell what the given ones do: built-in calls. -/
namespace Ob
open PySem L2

section
variable {W : Wd} {k : Nat} {F : Nat → FS} {n : Nat} {C : Ctx} {l : Dl} {σ : L2.St} {u : Mu} {G H : Hp}
/-- a built-in of one argument -/
theorem b1_rd (c : CtxOk W k F C) {x : Str} {id : String} {a : Expr} {p pos : Pos} {r : List V → Hp → VK → Prop} {Q : VK} (hg : isGl C x = true) (hr : ∀ X, InC W k C X → CallR X (.builtin id) r) (hf : freeNames.contains x = true) (hv : bootBuiltins x = some (.builtin id)) (hs : isStar a = false)
    (h : WE W k C a σ H fun v H1 => r [v] H1 Q) : WE W k C (.Call (.Name x p) [a] [] pos) σ H Q :=
  ⟨tCB r (tCons (WE W k C a) tNil), fun X hX => pe_callB (hr X hX) (hX.gl hg) (hX.blt c.w hf) hv (pa_cons (pWE hX) pa_nil (star_no hs [] X.env)) (gl_of hg).2.2 (gl_of hg).2.1 (star_no hs [] X.env) rfl, h⟩
theorem t1_rd (c : CtxOk W k F C) {x : Str} {T : String} {a : Expr} {p pos : Pos} {r : List V → Hp → VK → Prop} {Q : VK} (hg : isGl C x = true) (hr : ∀ X, InC W k C X → CallR X (.type T) r) (hf : freeNames.contains x = true) (hv : bootBuiltins x = some (.type T)) (hs : isStar a = false)
    (h : WE W k C a σ H fun v H1 => r [v] H1 Q) : WE W k C (.Call (.Name x p) [a] [] pos) σ H Q :=
  ⟨tCB r (tCons (WE W k C a) tNil), fun X hX => pe_callTy (hr X hX) (hX.gl hg) (hX.blt c.w hf) hv (pa_cons (pWE hX) pa_nil (star_no hs [] X.env)) (gl_of hg).2.2 (gl_of hg).2.1 (star_no hs [] X.env) rfl, h⟩
theorem sL (ih : Snd W k F n) (c : CtxOk W k F C) (h : Ht) (x : Str) (args : List Expr) (e' : Ex) (hg : isGl C x = true) (t : trC (n + 1) C h x args = some e') (p pos : Pos) (K : Dt → Mu → Prop) (Q : VK) (S : StA W G H l u σ) (w : wpE F e' l u K) (q : Cont W l σ u G H K Q) :
    WE W k C (.Call (.Name x p) args [] pos) σ H Q := by
  unfold trC at t
  split at t
  · cases t
  · rename_i hst
    have hst : args.any isStar = false := by simpa using hst
    split at t
    · rename_i j hj
      split at t
      · cases t
      · rename_i hne
        have hne : args.isEmpty = false := by simpa using hne
        cases ha : trA n C ((C.cah.lookup x).getD .no) 0 (C.cfz.contains x) args with
        | none =>
          rw [ha] at t
          cases t
        | some as =>
          rw [ha] at t
          have t : (if C.bors.contains x then Ex.bor (.call j as) else .call j as) = e' := Option.some.inj t
          split at t
          · subst t
            unfold wpE at w
            exact fn_rd ih c hg hj hst hne ha p pos S.lend w (bor_ok S q)
          · subst t
            exact fn_rd ih c hg hj hst hne ha p pos S w q
    · rename_i hnf
      split at t
      · rename_i cc j hj
        split at t
        · cases t
        · rename_i hne
          have hne : args.isEmpty = false := by simpa using hne
          cases ha : trA n C .no 0 false args with
          | none =>
            rw [ha] at t
            cases t
          | some as =>
            rw [ha] at t
            cases t
            exact nw_rd ih c hg hj hst hne ha p pos S w q
      · split at t
        · rename_i a _h
          have hs := (star_cons hst).1
          split at t
          · rename_i hx
            subst hx
            split at t
            · rename_i y py b pb
              split at t
              · rename_i hy
                have hy : (decide (y = "set") && isGl C y && !isStar b) = true := hy
                rw [Bool.and_eq_true, Bool.and_eq_true] at hy
                obtain ⟨⟨hy1, hy2⟩, hy3⟩ := hy
                have hy1 : y = "set" := of_decide_eq_true hy1
                subst hy1
                have hsb : isStar b = false := by simpa using hy3
                cases hb : trE n C .no false b with
                | none =>
                  rw [hb] at t
                  cases t
                | some b' =>
                  rw [hb] at t
                  cases t
                  unfold wpE at w
                  refine ⟨tSset (WE W k C b), fun X hX => pe_sset hX c.w (pWE hX) hsb (hX.gl hg) (hX.gl hy2), ?_⟩
                  refine ih.E C .no false b b' c hb _ _ _ _ _ _ _ S w fun v d u1 G1 H1 e1 S1 D1 w1 => ?_
                  exact sset_ok S1 D1 w1 (q.tr e1)
              · cases t
            · cases t
          · split at t
            · rename_i a' ha
              have E := ih.E C .no _ a a' c ha
              split at t
              · rename_i hx
                subst hx
                cases t
                unfold wpE at w
                refine b1_rd c hg (fun X hX => by have q := @call_len_seq X; rw [hX.K] at q; exact q) (by decide +kernel) PySem.boot_len hs ?_
                refine E _ _ _ _ _ _ _ S w fun v d u1 G1 H1 e1 S1 D1 w1 => ?_
                obtain ⟨ds, hd, w1⟩ := w1
                obtain ⟨a, vs, rfl, hsq, _, r⟩ := seq_rd S1.sub S1.mu D1 hd
                exact ⟨a, vs, rfl, hsq, q _ _ _ _ _ e1 S1 (by rw [r.length]; exact .int _) w1⟩
              · split at t
                · rename_i hx
                  subst hx
                  cases t
                  unfold wpE at w
                  refine t1_rd c hg (fun X hX => by have q := @call_list_of X; rw [hX.K] at q; exact q) (by decide +kernel) (by decide +kernel) hs ?_
                  refine E _ _ _ _ _ _ _ S w fun v d u1 G1 H1 e1 S1 D1 w1 => ?_
                  obtain ⟨ds, hd, w1⟩ := w1
                  obtain ⟨a, vs, rfl, hsq, nn, r⟩ := seq_rd S1.sub S1.mu D1 hd
                  exact ⟨a, vs, rfl, hsq, new_ok h.m S1 r nn w1 (q.tr e1)⟩
                · split at t
                  · rename_i hx
                    subst hx
                    cases t
                    unfold wpE at w
                    refine t1_rd c hg (fun X hX => by have q := @call_tuple_of X; rw [hX.K] at q; exact q) (by decide +kernel) (by decide +kernel) hs ?_
                    refine E _ _ _ _ _ _ _ S w fun v d u1 G1 H1 e1 S1 D1 w1 => ?_
                    obtain ⟨ds, hd, w1⟩ := w1
                    rcases hd with rfl | hd
                    · have D2 := D1
                      cases D1 with
                      | tup g gn r => exact ⟨_, _, rfl, .inr ⟨SqT.of (S1.sub _ _ g), q _ _ _ _ _ e1 S1 D2 w1⟩⟩
                    · obtain ⟨a, vs, rfl, hsq, nn, r⟩ := lst_rd S1.sub S1.mu D1 hd
                      exact ⟨a, vs, rfl, .inl ⟨SqL.of hsq, tup_ok S1 r nn w1 (q.tr e1)⟩⟩
                  · split at t
                    · rename_i hx
                      subst hx
                      cases t
                      unfold wpE at w
                      refine b1_rd c hg (fun X hX => by have q := cr_sum hX.calm; rw [hX.K] at q; exact q) (by decide +kernel) (by decide +kernel) hs ?_
                      refine E _ _ _ _ _ _ _ S w fun v d u1 G1 H1 e1 S1 D1 w1 => ?_
                      obtain ⟨ds, ns, hd, hn, w1⟩ := w1
                      obtain ⟨a, vs, rfl, hsq, nn, r⟩ := lst_rd S1.sub S1.mu D1 hd
                      rw [intsOf_eq hn] at r
                      have e := r.ints
                      subst e
                      exact ⟨a, ns, rfl, SqL.of hsq, q _ _ _ _ _ e1 S1 (.int _) w1⟩
                    · split at t
                      · rename_i hx
                        subst hx
                        cases t
                        unfold wpE at w
                        refine b1_rd c hg (fun X hX => by have q := cr_min hX.calm; rw [hX.K] at q; exact q) (by decide +kernel) (by decide +kernel) hs ?_
                        refine E _ _ _ _ _ _ _ S w fun v d u1 G1 H1 e1 S1 D1 w1 => ?_
                        obtain ⟨ds, ns, hd, hn, hne, w1⟩ := w1
                        obtain ⟨a, vs, rfl, hsq, nn, r⟩ := lst_rd S1.sub S1.mu D1 hd
                        rw [intsOf_eq hn] at r
                        have e := r.ints
                        subst e
                        exact ⟨a, ns, rfl, SqL.of hsq, List.length_pos_iff.mpr hne, fun m h1 h2 => q _ _ _ _ _ e1 S1 (.int _) (w1 m h1 h2)⟩
                      · split at t
                        · rename_i hx
                          subst hx
                          cases t
                          unfold wpE at w
                          refine t1_rd c hg (fun X hX => call_int1) (by decide +kernel) (by decide +kernel) hs ?_
                          refine E _ _ _ _ _ _ _ S w fun v d u1 G1 H1 e1 S1 D1 w1 => ?_
                          rcases w1 with ⟨i, rfl, w1⟩ | ⟨b, rfl, w1⟩
                          · cases D1
                            exact .inl ⟨i, rfl, q _ _ _ _ _ e1 S1 (.int _) w1⟩
                          · cases D1
                            exact .inr ⟨b, rfl, q _ _ _ _ _ e1 S1 (.int _) w1⟩
                        · split at t
                          · rename_i hx
                            subst hx
                            cases t
                            unfold wpE at w
                            refine b1_rd c hg (fun X hX => by have q := cr_all hX.calm; rw [hX.K] at q; exact q) (by decide +kernel) (by decide +kernel) hs ?_
                            refine E _ _ _ _ _ _ _ S w fun v d u1 G1 H1 e1 S1 D1 w1 => ?_
                            obtain ⟨ds, bs, hd, hn, w1⟩ := w1
                            obtain ⟨a, vs, rfl, hsq, nn, r⟩ := lst_rd S1.sub S1.mu D1 hd
                            have e := bls_eq r hn
                            subst e
                            exact ⟨a, bs, rfl, SqL.of hsq, q _ _ _ _ _ e1 S1 (.bl _) w1⟩
                          · split at t
                            · rename_i hx
                              subst hx
                              cases t
                              unfold wpE at w
                              refine t1_rd c hg (fun X hX => cr_dictM hX.calm hX.P hX.w hX.u65) (by decide +kernel) (by decide +kernel) hs ?_
                              refine E _ _ _ _ _ _ _ S w fun v d u1 G1 H1 e1 S1 D1 w1 => ?_
                              obtain ⟨ms, rfl, nd, hn, w1⟩ := w1
                              exact dictM_ok S1 D1 nd hn w1 (q.tr e1)
                            · cases t
            · cases t
        · rename_i a b _h
          obtain ⟨hs, hst2⟩ := star_cons hst
          have hs2 := (star_cons hst2).1
          split at t
          · rename_i hx
            subst hx
            split at t
            · rename_i a' b' ha hb
              cases t
              unfold wpE at w
              refine ⟨tCB rMin2 (tCons (WE W k C a) (tCons (WE W k C b) tNil)), fun X hX => pe_callB (cr_min2 hX.calm hX.u65) (hX.gl hg) (hX.blt c.w (by decide +kernel)) (by decide +kernel) (pa_cons (pWE hX) (pa_cons (pWE hX) pa_nil (star_no hs2 [] X.env)) (star_no hs [b] X.env)) (by decide) (by decide) (star_no hs [b] X.env) (star_all hst2 pos X.env), ?_⟩
              refine ih.E C .no false a a' c ha _ _ _ _ _ _ _ S w fun v d u1 G1 H1 e1 S1 D1 w1 => ?_
              refine ih.E C .no false b b' c hb _ _ _ _ _ _ _ S1 w1 fun v2 d2 u2 G2 H2 e2 S2 D2 w2 => ?_
              obtain ⟨p, q', rfl, rfl, w2⟩ := w2
              exact min2_ok S2 (D1.mono e2.g) D2 w2 (q.tr (e1.trans e2))
            · cases t
          · split at t
            · rename_i hx
              subst hx
              split at t
              · rename_i ty pt
                split at t
                · rename_i hgt
                  split at t
                  · rename_i a' i ha hi
                    cases t
                    unfold wpE at w
                    have key : i < 5 ∧ freeNames.contains ty = true ∧ bootBuiltins ty = some (.type (tyN i)) := by
                      have h2 := posOf_get hi
                      rw [Nat.sub_zero] at h2
                      have hlt : i < 5 := (List.getElem?_eq_some_iff.mp h2.2).1
                      refine ⟨hlt, ?_⟩
                      match i, hlt, h2.2 with
                      | 0, _, h => cases h; exact ⟨by decide +kernel, by decide +kernel⟩
                      | 1, _, h => cases h; exact ⟨by decide +kernel, by decide +kernel⟩
                      | 2, _, h => cases h; exact ⟨by decide +kernel, by decide +kernel⟩
                      | 3, _, h => cases h; exact ⟨by decide +kernel, by decide +kernel⟩
                      | 4, _, h => cases h; exact ⟨by decide +kernel, by decide +kernel⟩
                    obtain ⟨hlt, hfr, hbt⟩ := key
                    refine ⟨tCB (rIsi W.K) (tCons (WE W k C a) (tCons (tC (.ty (tyN i))) tNil)), fun X hX => pe_callB (by have q := @call_isi X; rw [hX.K] at q; exact q) (hX.gl hg) (hX.blt c.w (by decide +kernel)) (by decide +kernel) (pa_cons (pWE hX) (pa_cons (pe_bltn (hX.gl hgt) (hX.blt c.w hfr) hbt rfl (gl_of hgt).2.2 (gl_of hgt).2.1) pa_nil (star_no hs2 [] X.env)) (star_no hs _ X.env)) (by decide) (by decide) (star_no hs _ X.env) (star_all hst2 pos X.env), ?_⟩
                    refine ih.E C .no false a a' c ha _ _ _ _ _ _ _ S w fun v d u1 G1 H1 e1 S1 D1 w1 => ?_
                    obtain ⟨r, hr, w1⟩ := w1
                    exact isi_ok S1 hlt D1 hr (q _ _ _ _ _ e1 S1 (.bl r) w1)
                  · cases t
                · cases t
              · cases t
            · cases t
        · cases t
end
end Ob
/-! part Og7 -/
/-! The short expressions tell what the given ones do: all of them. -/
namespace Ob
open PySem L2

theorem base_ok {e : Expr} (h : byBase e = true) (f : Str) (env : Env) : attributeBase e f env (eval e env) = eval e env := by
  cases e <;> first | rfl | cases h
theorem plain_ix {b : Expr} (h : isSlice b = false) : PlainIx b := fun o i => by
  cases b <;> first | rfl | cases h
theorem not_set {e : Expr} (h : isSet e = false) (env : Env) (x : Value) : foldedSetIterable e env x = pure x := by
  cases e <;> first | rfl | cases h
/-- a method call on one line: what the model does -/
def bindsMain (o : Expr) (env : Env) : Sem Bool := do return (← importBound o env).getD true
theorem few_form {args : List Expr} (h1 : args.any isStar = false) (h2 : args.length < 20) (pos : Pos) (env : Env) : methodCallForm (args.length + ([] : List Keyword).length) (backTo pos (starEach args env)) (backToKw pos (keywordEach [] env)) = true := by
  have key : ∀ {es : List Expr}, es.any isStar = false → (backTo pos (starEach es env)).all (fun x => !x.1) = true := by
    intro es
    induction es with
    | nil => intro _; rfl
    | cons e es ih =>
      intro h
      rw [List.any_cons, Bool.or_eq_false_iff] at h
      rw [star_no h.1]
      show (true && (backTo pos (starEach es env)).all (fun x => !x.1)) = true
      rw [ih h.2]
      rfl
  unfold methodCallForm
  rw [key h1]
  show (true && true && decide (args.length + 0 + 0 < 30)) = true
  rw [decide_eq_true (by omega)]
  rfl
theorem meth_eval {o : Expr} {m : Str} {ap cp : Pos} {args : List Expr} {env : Env} (hb : byBase o = true) (hl : (ap.endLine == cp.line) = true) (h1 : args.any isStar = false) (h2 : args.length < 20) :
    eval (.Call (.Attribute o m ap) args [] cp) env = (do
      let ov ← eval o env
      standAt ap.atName
      let (f, first) ← holding [ov] (getMethod ov m (bindsMain o env))
      callWith cp f first (backTo cp (starEach args env)) (backToKw cp (keywordEach [] env))) := by
  have e0 : eval (.Call (.Attribute o m ap) args [] cp) env = (do
      let ov ← attributeBase o m env (eval o env)
      standAt ap.atName
      methodCall o m ap cp env ov (args.length + ([] : List Keyword).length) (backTo cp (starEach args env)) (backToKw cp (keywordEach [] env))) := rfl
  rw [e0, base_ok hb]
  have e1 : ∀ ov, methodCall o m ap cp env ov (args.length + ([] : List Keyword).length) (backTo cp (starEach args env)) (backToKw cp (keywordEach [] env)) = (do
      let (f, first) ← holding [ov] (getMethod ov m (bindsMain o env))
      callWith cp f first (backTo cp (starEach args env)) (backToKw cp (keywordEach [] env))) := fun ov => by
    have ff := few_form h1 h2 cp env
    unfold methodCall
    rw [ff]
    have e2 : methodCallPos true o env ap cp = pure cp := by
      unfold methodCallPos
      rw [hl]
      rfl
    rw [e2]
    first
      | rfl
      | simp only [pure_bind]; rfl
      | (simp only [pure_bind, calleeOf, bindsMain, if_true])
  simp only [e1]
section
variable {W : Wd} {k : Nat} {F : Nat → FS} {n : Nat} {C : Ctx} {l : Dl} {σ : L2.St} {u : Mu} {G H : Hp}
/-- a comprehension's parts -/
theorem lc_parts (ih : Snd W k F n) (c : CtxOk W k F C) {h : Ht} {elt tg iter : Expr} {ifs : List Expr} {scope : Scope} {e' : Ex}
    (t : (if blkC C.N C.sc scope (ownOf C.N scope) && !isSet iter then
        match trI n C tg iter, trG n (C.blk scope) tg, trE n (C.blk scope) (h.kid 0) true elt, trF n (C.blk scope) ifs with
        | some i', some g', some e', some t' => if (slotsG g').all (((ownOf C.N scope).map (·.2)).contains ·) then some (.lc h.m ((ownOf C.N scope).map (·.2)) e' g' i' t') else none
        | _, _, _, _ => none
      else none) = some e') (K : Dt → Mu → Prop) (Q : VK) (S : StA W G H l u σ) (w : wpE F e' l u K) (q : Cont W l σ u G H K Q) :
    isSet iter = false ∧ (∀ X, InC W k C X → BlkOk X.N X.env.scope scope (ownOf C.N scope)) ∧ tLc (WI W k C tg iter) (WG W k (C.blk scope) tg) (WF W k (C.blk scope) ifs) (WE W k (C.blk scope) elt) ((ownOf C.N scope).map (·.2)) σ H Q := by
  split at t
  · rename_i hb
    rw [Bool.and_eq_true] at hb
    obtain ⟨hb, hset⟩ := hb
    have hset : isSet iter = false := by simpa using hset
    split at t
    · rename_i i' g' e1 t' hi hgt he ht
      split at t
      · rename_i hsl
        cases t
        refine ⟨hset, fun X hX => by rw [hX.N, hX.sc]; exact blkOk_by hb, ?_⟩
        refine lc_rd (fun K R w q => ih.I C tg iter i' c hset hi _ _ _ _ _ _ _ S w q) (sndG (C := C.blk scope) c.nd n tg g' hgt) (fun i hi => ?_) (fun l σ u G H K Q S w q => ih.Fl (C.blk scope) ifs t' (c.blk scope) ht _ _ _ _ _ _ _ S w q)
          (fun l σ u G H K Q S w q => ih.E (C.blk scope) (h.kid 0) true elt e1 (c.blk scope) he _ _ _ _ _ _ _ S w q) S w q
        have := List.all_eq_true.mp hsl i hi
        exact List.contains_iff_mem.mp this
      · cases t
    · cases t
  · cases t
theorem op1 {α β : Type} {f : α → β} {o : Option α} {e' : β} (t : o.map f = some e') : ∃ a, o = some a ∧ e' = f a := by
  cases o with
  | none => cases t
  | some a =>
    cases t
    exact ⟨a, rfl, rfl⟩
theorem sE (ih : Snd W k F n) (c : CtxOk W k F C) (h : Ht) (esc : Bool) (e : Expr) (e' : Ex) (t : trE (n + 1) C h esc e = some e') (K : Dt → Mu → Prop) (Q : VK) (S : StA W G H l u σ) (w : wpE F e' l u K) (q : Cont W l σ u G H K Q) : WE W k C e σ H Q := by
  unfold trE at t
  split at t
  · rename_i i j pos
    cases t
    unfold wpE at w
    exact ⟨tC (.int i), fun X hX => pe_int, q.at S (.int i) w⟩
  · rename_i b j pos
    cases t
    unfold wpE at w
    exact ⟨tC (.bl b), fun X hX => pe_bl, q.at S (.bl b) w⟩
  · rename_i j pos
    cases t
    unfold wpE at w
    exact ⟨tC .non, fun X hX => pe_non, q.at S .non w⟩
  · rename_i x j pos
    cases t
    unfold wpE at w
    exact ⟨tC (.str x), fun X hX => pe_str, q.at S (.str x) w⟩
  · rename_i x pos
    split at t
    · rename_i i hi
      cases t
      obtain ⟨h1, h2, h3, h4⟩ := slot_vis hi
      refine ⟨tVar i, fun X hX => pe_var (by rw [hX.N]; exact h1) (by rw [hX.sc]; exact h2) h3 h4, ?_⟩
      unfold outS at w
      split at w
      · unfold wpE at w
        unfold wpE at w
        obtain ⟨d, hd, w⟩ := w
        obtain ⟨v, hv, D⟩ := S.sl i d hd
        obtain ⟨G', e1, S1, D1⟩ := fz2_ok S D
        exact ⟨v, hv, q _ _ _ _ _ e1 S1 D1 w⟩
      · unfold wpE at w
        obtain ⟨d, hd, w⟩ := w
        obtain ⟨v, hv, D⟩ := S.sl i d hd
        exact ⟨v, hv, q.at S D w⟩
    · split at t
      · rename_i hg
        obtain ⟨i, hi, rfl⟩ := op1 t
        unfold wpE at w
        obtain ⟨tk, hm⟩ := c.cst x i hi
        exact ⟨tC (.int i), fun X hX => pe_glob (hX.gl hg) (by rw [hX.mg]; exact hm) ⟨tk, rfl⟩ (gl_of hg).2.1, q.at S (.int i) w⟩
      · cases t
  · rename_i a op b pos
    split at t
    · rename_i a' b' ha hb
      cases t
      unfold wpE at w
      obtain ⟨r, hr, ok⟩ := bin_ok (W := W) (k := k) (C := C) op h.m
      refine ⟨tOp r (WE W k C a) (WE W k C b), fun X hX => pe_op (hr X hX) (pWE hX) (pWE hX), ?_⟩
      refine ih.E C .no false a a' c ha _ _ _ _ _ _ _ S w fun x d u1 G1 H1 e1 S1 D1 w1 => ?_
      refine ih.E C .no false b b' c hb _ _ _ _ _ _ _ S1 w1 fun y e u2 G2 H2 e2 S2 D2 w2 => ?_
      exact ok S2 (D1.mono e2.g) D2 w2 (q.tr (e1.trans e2))
    · cases t
  · rename_i a pos
    obtain ⟨a', ha, rfl⟩ := op1 t
    unfold wpE at w
    refine ⟨tUn (rU fun i => .int (-i)) (WE W k C a), fun X hX => pe_un un_neg (pWE hX), ?_⟩
    refine ih.E C .no false a a' c ha _ _ _ _ _ _ _ S w fun x d u1 G1 H1 e1 S1 D1 w1 => ?_
    obtain ⟨i, rfl, w1⟩ := w1
    cases D1
    exact ⟨i, rfl, q _ _ _ _ _ e1 S1 (.int _) w1⟩
  · rename_i a pos
    obtain ⟨a', ha, rfl⟩ := op1 t
    unfold wpE at w
    refine ⟨tNotV (WE W k C a), fun X hX => pe_not (pWE hX), ?_⟩
    refine ih.E C .no false a a' c ha _ _ _ _ _ _ _ S w fun x d u1 G1 H1 e1 S1 D1 w1 => ?_
    obtain ⟨b, rfl, w1⟩ := w1
    cases D1
    exact ⟨b, rfl, q _ _ _ _ _ e1 S1 (.bl _) w1⟩
  · rename_i es pos
    exact ih.B C true es e' c t pos _ _ _ _ _ _ _ S w q
  · rename_i es pos
    exact ih.B C false es e' c t pos _ _ _ _ _ _ _ S w q
  · rename_i a op b pos
    split at t
    · cases t
    · rename_i hm
      split at t
      · rename_i a' b' ha hb
        cases t
        obtain ⟨r, hr, rd⟩ := cmp_rd ih c ha hb S w (fun b u1 G1 H1 e1 S1 w1 => q _ _ _ _ _ e1 S1 (.bl b) w1)
        exact ⟨tOp r (WE W k C a) (WE W k C b), fun X hX => pe_cmpR (hr X hX) (pWE hX) (pWE hX) (by simpa using hm), rd⟩
      · cases t
  · rename_i a op op2 b d pos
    split at t
    · cases t
    · rename_i hm
      split at t
      · rename_i a' b' d' ha hb hd
        cases t
        obtain ⟨r, r2, hr, hr2, rd⟩ := chain_rd ih c ha hb hd S w (fun b u1 G1 H1 e1 S1 w1 => q _ _ _ _ _ e1 S1 (.bl b) w1)
        exact ⟨tChain r r2 (WE W k C a) (WE W k C b) (WE W k C d), fun X hX => pe_chain (hr X hX) (hr2 X hX) (pWE hX) (pWE hX) (pWE hX) (by simpa using hm), rd⟩
      · cases t
  · rename_i tt a b pos
    split at t
    · rename_i t' a' b' ht ha hb
      cases t
      unfold wpE at w
      refine ⟨tIf (WT W k C tt) (WE W k C a) (WE W k C b), fun X hX => pe_ifExp (pWT hX) (pWE hX) (pWE hX), ?_⟩
      refine ih.T C tt t' c ht _ _ _ _ _ _ _ S w fun kk u1 G1 H1 e1 S1 w1 => ?_
      cases kk with
      | true => exact ih.E C .no false a a' c ha _ _ _ _ _ _ _ S1 (w1.1 rfl) (q.tr e1)
      | false => exact ih.E C .no false b b' c hb _ _ _ _ _ _ _ S1 (w1.2 rfl) (q.tr e1)
    · cases t
  · rename_i es kk pos
    obtain ⟨es', ha, rfl⟩ := op1 t
    unfold wpE at w
    refine ⟨tTup (WA W k C es), fun X hX => pe_tup (pWA hX), ?_⟩
    refine ih.A C h 0 true es es' c ha _ _ _ _ _ _ _ S w fun vs ds u1 G1 H1 e1 S1 D1 w1 => ?_
    have nn : vs.length ≤ sizeLine := by
      rw [D1.length]
      exact lim_le w1.1
    exact ⟨nn, tup_ok S1 D1 nn w1.2 (q.tr e1)⟩
  · rename_i es pos
    obtain ⟨es', ha, rfl⟩ := op1 t
    unfold wpE at w
    refine ⟨tLst (WA W k C es), fun X hX => pe_lst (pWA hX), ?_⟩
    refine ih.A C h 0 true es es' c ha _ _ _ _ _ _ _ S w fun vs ds u1 G1 H1 e1 S1 D1 w1 => ?_
    have nn : vs.length ≤ sizeLine := by
      rw [D1.length]
      exact lim_le w1.1
    exact ⟨nn, new_ok h.m S1 D1 nn w1.2 (q.tr e1)⟩
  · rename_i a lo hi p2 pos
    split at t
    · rename_i a' l' h' ha hl hh
      cases t
      unfold wpE at w
      refine ⟨tSl (rSlL W.K) (WE W k C a) (WO W k C lo) (WO W k C hi), fun X hX => ?_, ?_⟩
      · rw [← hX.K]
        exact pe_slice sl_list (pWE hX) (pWO hX) (pWO hX)
      · refine ih.E C .no false a a' c ha _ _ _ _ _ _ _ S w fun x d u1 G1 H1 e1 S1 D1 w1 => ?_
        refine ih.O C lo l' c hl _ _ _ _ _ _ _ S1 w1 fun p u2 G2 H2 e2 S2 w2 => ?_
        refine ih.O C hi h' c hh _ _ _ _ _ _ _ S2 w2 fun r u3 G3 H3 e3 S3 w3 => ?_
        obtain ⟨ds, hd, w3⟩ := w3
        obtain ⟨b, vs, rfl, hb, nn, rv⟩ := lst_rd S3.sub S3.mu (D1.mono (e2.trans e3).g) hd
        refine ⟨b, vs, rfl, SqL.of hb, new_ok h.m S3 (vs := cutV vs p r) ?_ (Nat.le_trans (cutV_length _ _ _) nn) w3 (q.tr ((e1.trans e2).trans e3))⟩
        unfold cutV cutD
        rw [rv.length]
        exact (rv.drop _).take _
    · cases t
  · rename_i a i pos hns
    split at t
    · cases t
    · rename_i hsl
      have hsl : isSlice i = false := by simpa using hsl
      split at t
      · rename_i a' i' ha hi
        cases t
        unfold wpE at w
        refine ⟨tOp (rIx W.K) (WE W k C a) (WE W k C i), fun X hX => ?_, ?_⟩
        · rw [← hX.K]
          exact pe_ix ix_seq (pWE hX) (pWE hX) (plain_ix hsl)
        · refine ih.E C .no false a a' c ha _ _ _ _ _ _ _ S w fun x d u1 G1 H1 e1 S1 D1 w1 => ?_
          refine ih.E C .no false i i' c hi _ _ _ _ _ _ _ S1 w1 fun y e u2 G2 H2 e2 S2 D2 w2 => ?_
          obtain ⟨ds, kk, d', hd, rfl, hk, w2⟩ := w2
          cases D2
          obtain ⟨b, vs, rfl, hb, nn, rv⟩ := seq_rd S2.sub S2.mu (D1.mono e2.g) hd
          obtain ⟨v, hv, D3⟩ := rv.atI hk
          have fin := q _ _ _ _ _ (e1.trans e2) S2 D3 w2
          rcases hb with hb | hb
          · exact .inl ⟨b, vs, kk, v, rfl, rfl, hb, hv, fin⟩
          · exact .inr (.inl ⟨b, vs, kk, v, rfl, rfl, hb, hv, fin⟩)
      · cases t
  · rename_i a x pos
    split at t
    · cases t
    · rename_i hb
      have hb : byBase a = true := by simpa using hb
      split at t
      · rename_i a' i ha hi
        cases t
        unfold wpE at w
        have hx : atn i = x := by
          have h2 := posOf_get hi
          rw [Nat.sub_zero] at h2
          have hlt : i < 11 := (List.getElem?_eq_some_iff.mp h2.2).1
          match i, hlt, h2.2 with
          | 0, _, h => exact Option.some.inj h
          | 1, _, h => exact Option.some.inj h
          | 2, _, h => exact Option.some.inj h
          | 3, _, h => exact Option.some.inj h
          | 4, _, h => exact Option.some.inj h
          | 5, _, h => exact Option.some.inj h
          | 6, _, h => exact Option.some.inj h
          | 7, _, h => exact Option.some.inj h
          | 8, _, h => exact Option.some.inj h
          | 9, _, h => exact Option.some.inj h
          | 10, _, h => exact Option.some.inj h
        subst hx
        refine ⟨tFld W.K (WE W k C a) (atn i), fun X hX => ?_, ?_⟩
        · rw [← hX.K]
          exact pe_fld (pWE hX) (base_ok hb _ _)
        · refine ih.E C .no false a a' c ha _ _ _ _ _ _ _ S w fun y d u1 G1 H1 e1 S1 D1 w1 => ?_
          obtain ⟨cc, fs, d', ⟨h1, h2⟩, h3, w1⟩ := w1
          obtain ⟨b, dx, vs, v, lc, rfl, hv, hl, D2⟩ := att_rd S1 D1 h1 h2 h3
          exact ⟨b, W.cl cc, dx, vs, v, rfl, hv, c.w.cls cc lc, c.w.noat cc i lc h3, hl, q _ _ _ _ _ e1 S1 D2 w1⟩
      · cases t
  · rename_i o m ap args cp
    split at t
    · cases t
    · rename_i hb
      have hb : byBase o = true ∧ (ap.endLine == cp.line) = true := by
        cases h1 : byBase o <;> cases h2 : (ap.endLine == cp.line) <;> simp [h1, h2] at hb ⊢
      split at t
      · rename_i hm
        subst hm
        split at t
        · rename_i hemp
          cases args with
          | cons => cases hemp
          | nil =>
            obtain ⟨o', ho, rfl⟩ := op1 t
            unfold wpE at w
            refine ⟨tBM0 W.K "list" rPop (WE W k C o), fun X hX => ?_, ?_⟩
            · rw [← hX.K]
              exact pe_bm0 PySem.F.plainAttrs_list PySem.F.slot_list_pop PySem.F.type_list_pop mt_pop (pWE hX) (base_ok hb.1 _ _) hb.2
            · refine ih.E C .no false o o' c ho _ _ _ _ _ _ _ S w fun y d u1 G1 H1 e1 S1 D1 w1 => ?_
              obtain ⟨p, ds, d', rfl, hp, w1⟩ := w1
              cases D1
              obtain ⟨vs, hv, nn, r⟩ := S1.mu.lst hp
              have hlen : vs.length = ds.length + 1 := by
                rw [r.length, List.length_append, List.length_singleton]
              obtain ⟨v, h1, D2⟩ := r.get (i := ds.length) (d := d') (by rw [List.getElem?_append_right (Nat.le_refl _), Nat.sub_self]; rfl)
              have rd : DatL W G1 vs.dropLast ds := by
                have := r.dropLast
                rw [List.dropLast_concat] at this
                exact this
              obtain ⟨S2, e2⟩ := S1.wr (mem_adrs (get_mem hp)) (c := .lst ds) (o := .lst vs.dropLast) (fun H' h' => ⟨_, h', by rw [List.length_dropLast]; omega, rd⟩)
              refine ⟨.inl ⟨rfl, vs, SqL.of hv⟩, p, vs, v, rfl, rfl, hv, by rw [hlen]; exact h1, ?_⟩
              exact q _ _ _ _ _ (e1.trans e2) S2 (D2.mono e2.g) w1
        · cases t
      · split at t
        · rename_i hm
          subst hm
          split at t
          · rename_i e
            split at t
            · cases t
            · rename_i hs
              have hs : isStar e = false := by simpa using hs
              split at t
              · rename_i o' e1 ho he
                cases t
                unfold wpE at w
                refine ⟨tBM W.K "list" rAppend (WE W k C o) (tCons (WE W k C e) tNil), fun X hX => ?_, ?_⟩
                · rw [← hX.K]
                  exact pe_bm PySem.F.plainAttrs_list PySem.F.slot_list_append PySem.F.type_list_append mt_append (pWE hX) (pa_cons (pWE hX) pa_nil (star_no hs [] X.env)) (base_ok hb.1 _ _) (by rw [star_no hs]; rfl) hb.2 (star_no hs [] X.env) rfl
                · refine ih.E C .no false o o' c ho _ _ _ _ _ _ _ S w fun y d u1 G1 H1 x1 S1 D1 w1 => ?_
                  obtain ⟨p, ds0, rfl, hp0, w1⟩ := w1
                  cases D1
                  obtain ⟨vs0, hv0, _, _⟩ := S1.mu.lst hp0
                  refine ⟨.inl ⟨rfl, vs0, SqL.of hv0⟩, ?_⟩
                  refine ih.E C C.ah true e e1 c he _ _ _ _ _ _ _ S1 w1 fun z d2 u2 G2 H2 x2 S2 D2 w2 => ?_
                  obtain ⟨ds, hp, hl, w2⟩ := w2
                  obtain ⟨vs, hv, nn, r⟩ := S2.mu.lst hp
                  have lt : vs.length < sizeLine := by
                    rw [r.length]
                    exact lim_lt hl
                  obtain ⟨S3, x3⟩ := S2.wr (mem_adrs (get_mem hp)) (c := .lst (ds ++ [d2])) (o := .lst (vs ++ [z])) (fun H' h' => ⟨_, h', by rw [List.length_append, List.length_singleton]; omega, r.append (.cons D2 .nil)⟩)
                  exact ⟨p, vs, z, rfl, rfl, hv, lt, q _ _ _ _ _ ((x1.trans x2).trans x3) S3 .non w2⟩
              · cases t
          · cases t
        · split at t
          · rename_i hm
            subst hm
            split at t
            · rename_i e
              split at t
              · cases t
              · rename_i hs
                have hs : isStar e = false := by simpa using hs
                split at t
                · rename_i o' e1 ho he
                  cases t
                  unfold wpE at w
                  refine ⟨tBM W.K "list" rExtend (WE W k C o) (tCons (WE W k C e) tNil), fun X hX => ?_, ?_⟩
                  · rw [← hX.K]
                    exact pe_bm PySem.F.plainAttrs_list PySem.F.slot_list_extend PySem.F.type_list_extend mt_extend (pWE hX) (pa_cons (pWE hX) pa_nil (star_no hs [] X.env)) (base_ok hb.1 _ _) (by rw [star_no hs]; rfl) hb.2 (star_no hs [] X.env) rfl
                  · refine ih.E C .no false o o' c ho _ _ _ _ _ _ _ S w fun y d u1 G1 H1 x1 S1 D1 w1 => ?_
                    obtain ⟨p, ds0, rfl, hp0, w1⟩ := w1
                    cases D1
                    obtain ⟨vs0, hv0, _, _⟩ := S1.mu.lst hp0
                    refine ⟨.inl ⟨rfl, vs0, SqL.of hv0⟩, ?_⟩
                    refine ih.E C .no false e e1 c he _ _ _ _ _ _ _ S1 w1 fun z d2 u2 G2 H2 x2 S2 D2 w2 => ?_
                    obtain ⟨ds, es, hp, rfl, hl, w2⟩ := w2
                    obtain ⟨vs, hv, nn, r⟩ := S2.mu.lst hp
                    cases D2 with
                    | @lst b ws es g gn rb =>
                      have le : vs.length + ws.length ≤ sizeLine := by
                        rw [r.length, rb.length]
                        exact lim_le hl
                      obtain ⟨S3, x3⟩ := S2.wr (mem_adrs (get_mem hp)) (c := .lst (ds ++ es)) (o := .lst (vs ++ ws)) (fun H' h' => ⟨_, h', by rw [List.length_append]; exact le, r.append rb⟩)
                      exact ⟨p, b, vs, ws, rfl, rfl, hv, S2.sub _ _ g, le, q _ _ _ _ _ ((x1.trans x2).trans x3) S3 .non w2⟩
                · cases t
            · cases t
          · split at t
            · rename_i cc j o' hj ho
              split at t
              · cases t
              · rename_i hne
                obtain ⟨as, ha, rfl⟩ := op1 t
                unfold wpE at w
                have hne : args.any isStar = false ∧ args.isEmpty = false ∧ (atNo m).isSome = false ∧ args.length < 20 := by
                  have hne : (args.any isStar || args.isEmpty || (atNo m).isSome || !decide (args.length < 20)) = false := by simpa only [Bool.not_eq_true] using hne
                  rw [Bool.or_eq_false_iff, Bool.or_eq_false_iff, Bool.or_eq_false_iff] at hne
                  obtain ⟨⟨⟨h1, h2⟩, h3⟩, h4⟩ := hne
                  exact ⟨h1, h2, h3, by simpa using h4⟩
                obtain ⟨hst, hemp, hat, hfew⟩ := hne
                obtain ⟨lc, f, fd, ps, hM, hB, hF⟩ := c.mth m cc j hj
                cases args with
                | nil => cases hemp
                | cons a r =>
                  obtain ⟨s1, s2⟩ := star_cons hst
                  refine ⟨tMeth (W.cl cc) m (spF W (F j)) [] E0 (WE W k C o) (WA W k C (a :: r)), fun X hX => ?_, ?_⟩
                  · have hF' : FnOk X.prog X.w X.K X.mg X.base CX0 k f fd ps (spF W (F j)) := by
                      rw [hX.P, hX.w, hX.K, hX.mg, hX.base]
                      exact hF
                    have hM' : Meth X.K (W.cl cc) m f := by
                      rw [hX.K]
                      exact hM
                    have hC' : Cls X.K (W.cl cc) := by
                      rw [hX.K]
                      exact c.w.cls cc lc
                    have hB' : Binds X.K fd ps [] := by
                      rw [hX.K]
                      exact hB
                    exact pe_meth (pWE hX) hC' hM' hF' hX.room hB' .nil pass0 (pWA hX) (star_no s1 r X.env) (star_all s2 cp X.env) (meth_eval hb.1 hb.2 hst hfew)
                  · refine ih.E C .no false o o' c ho _ _ _ _ _ _ _ S w fun y d u1 G1 H1 x1 S1 D1 w1 => ?_
                    obtain ⟨fs, rfl, w1⟩ := w1
                    have D2 := D1
                    cases D1 with
                    | @ins b dx _ vs0 _ _ g rf =>
                      have hno : vs0.lookup m = none := by
                        refine rf.out fun i hi e => ?_
                        have : ∀ i, i < 11 → (atNo (atn i)).isSome = true := by
                          have h : ((List.range 11).all fun i => (atNo (atn i)).isSome) = true := by decide +kernel
                          exact fun i hi => List.all_eq_true.mp h i (List.mem_range.mpr hi)
                        have := this i hi
                        rw [e, hat] at this
                        cases this
                      refine ⟨b, dx, vs0, rfl, S1.sub _ _ g, hno, ?_⟩
                      refine ih.A C .no 0 false (a :: r) as c ha _ _ _ _ _ _ _ S1 w1 fun vs ds u2 G2 H2 x2 S2 D3 w2 => ?_
                      refine ⟨G2, .ins cc fs :: ds, u2, K, S2.sub, ?_, S2.mu, w2, ret_ok (q.tr (x1.trans x2)) S2⟩
                      rw [List.append_nil]
                      exact .cons (D2.mono x2.g) D3
            · cases t
  · rename_i x p args pos
    split at t
    · rename_i hg
      exact ih.L C h x args e' c hg t p pos _ _ _ _ _ _ _ S w q
    · cases t
  · rename_i elt tg iter ifs scope pos
    obtain ⟨hset, hblk, rd⟩ := lc_parts ih c t K Q S w q
    refine ⟨_, fun X hX => ?_, rd⟩
    exact pe_lc hX.calm (by rw [hX.N]; exact c.nd) (pWI hX) (hblk X hX) (fun s H cc cl fp => pWG (hX.blk s H scope cl cc fp)) (fun s H cc cl fp => pWF (hX.blk s H scope cl cc fp)) (fun s H cc cl fp => pWE (hX.blk s H scope cl cc fp)) (fun y => not_set hset _ _)
  · cases t
end
end Ob
/-! part Og8 -/
/-! The short statements tell what the given ones do; a def's promise by its short text. -/
namespace Ob
open PySem L2

theorem snd_all {W : Wd} {k : Nat} {F : Nat → FS} : ∀ n, Snd W k F n
  | 0 => snd_zero
  | n + 1 => by
    have ih := snd_all (W := W) (k := k) (F := F) n
    exact ⟨fun C h esc e e' c t l σ u G H K Q S w q => sE ih c h esc e e' t K Q S w q, fun C o es e' c t pos l σ u G H K Q S w q => sB ih c o es e' t pos K Q S w q,
      fun C h x args e' c hg t p pos l σ u G H K Q S w q => sL ih c h x args e' hg t p pos K Q S w q, fun C h i esc es e' c t l σ u G H K Q S w q => sA ih c h i esc es e' t K Q S w q,
      fun C e e' c t l σ u G H K Q S w q => sO ih c e e' t K Q S w q, fun C e e' c t l σ u G H K Q S w q => sT ih c e e' t K Q S w q, fun C o es e' c t pos l σ u G H K Q S w q => sU ih c o es e' t pos K Q S w q,
      fun C es e' c t l σ u G H K Q S w q => sF ih c es e' t K Q S w q, fun C tg it e' c hs t l σ u G H K R S w q => sI ih c tg it e' hs t K R S w q⟩

theorem swap_no {e : Expr} (h : isLc e = false) (t : Option Expr) (l : Nat) (env : Env) : swapsWith e t l env = pure false := by
  cases e <;> first | rfl | cases h
theorem swap_cell {elt : Expr} {gs : List Comprehension} {scope : Scope} {pos py : Pos} {y : Str} {l : Nat} {env : Env} (hy : env.scope.names.lookup y = some .cell) : swapsWith (.ListComp elt gs scope pos) (some (.Name y py)) l env = pure false := by
  have ky : env.kindOf y = some .cell := hy
  unfold swapsWith
  simp only [ky]
  have e1 : ((some NameKind.cell : Option NameKind) == some NameKind.local) = false := rfl
  rw [e1, Bool.and_false, Bool.false_and, Bool.false_and]
section
variable {W : Wd} {k : Nat} {F : Nat → FS} {n : Nat} {C : Ctx} {l : Dl} {σ : L2.St} {u : Mu} {G H : Hp}
def TOk (W : Wd) (k : Nat) (C : Ctx) (F : Nat → FS) (s : Stmt) (s' : Sx) : Prop := ∀ (l : Dl) (σ : L2.St) (u : Mu) (G H : Hp) (K : Dl → Mu → Prop) (R : Dt → Mu → Prop) (D : Ends), StA W G H l u σ → wpS F s' l u K R → ContN W u G H K D.nx → ContR W u G H R D.rt → WS W k C s D σ H
theorem ContN.at {K : Dl → Mu → Prop} {N : L2.St → Hp → Prop} (c : ContN W u G H K N) (S : StA W G H l u σ) (kk : K l u) : N σ H := c l u σ G H (Ext.refl S.sub) S kk
/-- what a value is stored into -/
theorem asg_rd {tg : Expr} {g : Ex} (hG : GOk W k C tg g) {K : Dl → Mu → Prop} {D : Ends} (cn : ContN W u G H K D.nx) : Cont W l σ u G H (fun d u1 => wpG g d l fun l1 => K l1 u1) (fun v H' => WG W k C tg v σ H' D.nx) :=
  fun v d u1 G1 H1 e1 S1 D1 w1 => hG _ _ _ _ _ _ _ _ _ S1 D1 w1 fun l' σ' S2 kk _ => cn _ _ _ _ _ e1 S2 kk
/-- a name gets a value -/
theorem pe_name_asg {x : Str} {p : Pos} {i : Nat} (hg : trG n C (.Name x p) = some (.slot i)) : C.N[i]? = some x ∧ (C.sc.names.lookup x = some .local ∨ C.sc.names.lookup x = some .cell) ∧ (C.fn x = true ∨ C.sc.names.lookup x = some .local) := by
  cases n with
  | zero => cases hg
  | succ n =>
    unfold trG at hg
    have hg : (if (decide (C.sc.names.lookup x = some .local) || (decide (C.sc.names.lookup x = some .cell) && C.fn x)) = true then (posOf C.N x 0).map Ex.slot else none) = some (.slot i) := hg
    split at hg
    · rename_i hx
      obtain ⟨j, hj, e⟩ := op1 hg
      cases e
      refine ⟨by simpa using (posOf_get hj).2, ?_⟩
      rw [Bool.or_eq_true] at hx
      rcases hx with hx | hx
      · exact ⟨.inl (of_decide_eq_true hx), .inr (of_decide_eq_true hx)⟩
      · rw [Bool.and_eq_true] at hx
        exact ⟨.inr (of_decide_eq_true hx.1), .inl hx.2⟩
    · cases hg
end
theorem trE_lc {m : Nat} {C : Ctx} {h : Ht} {esc : Bool} {elt : Expr} {gs : List Comprehension} {scope : Scope} {q : Pos} {e' : Ex} (t : trE (m + 1) C h esc (.ListComp elt gs scope q) = some e') : ∃ tg iter ifs, gs = [⟨tg, iter, ifs, 0⟩] ∧
    (if blkC C.N C.sc scope (ownOf C.N scope) && !isSet iter then
        match trI m C tg iter, trG m (C.blk scope) tg, trE m (C.blk scope) (h.kid 0) true elt, trF m (C.blk scope) ifs with
        | some i', some g', some e', some t' => if (slotsG g').all (((ownOf C.N scope).map (·.2)).contains ·) then some (.lc h.m ((ownOf C.N scope).map (·.2)) e' g' i' t') else none
        | _, _, _, _ => none
      else none) = some e' := by
  unfold trE at t
  split at t <;> first
    | (rename_i h0; cases h0; exact ⟨_, _, _, rfl, t⟩)
    | (rename_i h0; cases h0; done)
    | exact ⟨_, _, _, rfl, t⟩
    | cases t
/-- a slot put to rest -/
theorem StA.frz {W : Wd} {G H : Hp} {l : Dl} {u : Mu} {σ : L2.St} (S : StA W G H l u σ) {i : Nat} {d : Dt} (hd : l[i]? = some (some d)) : ∃ G', Ext (adrs u) (adrs (fz2 u d).2) G H G' H ∧ StA W G' H (l.set i (some (fz2 u d).1)) (fz2 u d).2 σ := by
  obtain ⟨v, hv, D⟩ := S.sl i d hd
  obtain ⟨G', e1, S1, D1⟩ := fz2_ok S D
  refine ⟨G', e1, S1.sub, S1.mu, by rw [List.length_set]; exact S1.len, fun j e hj => ?_⟩
  by_cases q : i = j
  · subst q
    rw [List.getElem?_set_self (List.getElem?_eq_some_iff.mp hd).1] at hj
    cases hj
    exact ⟨v, hv, D1⟩
  · rw [List.getElem?_set_ne q] at hj
    exact S1.sl j e hj
theorem add_rd {W : Wd} {k : Nat} {F : Nat → FS} {C : Ctx} {s : Stmt} {a : Sx} (h : TOk W k C F s a) : TOk W k C F s (addF C s a) := by
  unfold addF
  split
  · rename_i i _
    intro l σ u G H K R D S w cn cr
    unfold wpS at w
    unfold wpS at w
    obtain ⟨d, hd, w⟩ := w
    obtain ⟨G', e1, S1⟩ := S.frz hd
    exact h _ _ _ _ _ _ _ D S1 w (cn.tr e1) (cr.tr e1)
  · exact h
section
variable {W : Wd} {k : Nat} {F : Nat → FS} {C : Ctx} {l : Dl} {σ : L2.St} {u : Mu} {G H : Hp}
theorem sndS (c : CtxOk W k F C) : ∀ n : Nat, (∀ s s', trS n C s = some s' → TOk W k C F s s') ∧ ∀ b b', trSs n C b = some b' → SOk W k C F b b'
  | 0 => ⟨fun s s' t => (nomatch t), fun b b' t => (nomatch t)⟩
  | n + 1 => by
    obtain ⟨ihS, ihB⟩ := sndS c n
    have ih := snd_all (W := W) (k := k) (F := F) n
    constructor
    · intro s s' t l σ u G H K R D S w cn cr
      unfold trS at t
      split at t
      · rename_i x p e pos
        split at t
        · rename_i i hi
          split at t
          · rename_i e' he
            have key : s' = .asg (.slot i) e' ∧ (isLc e = false ∨ ∃ elt gs scope q, e = .ListComp elt gs scope q ∧ (C.sc.names.lookup x = some .cell ∨ lcStore C x p q scope = true)) := by
              split at t
              · rename_i elt gs scope q
                split at t
                · rename_i hc
                  cases t
                  rw [Bool.or_eq_true] at hc
                  refine ⟨rfl, .inr ⟨elt, gs, scope, q, rfl, ?_⟩⟩
                  rcases hc with hc | hc
                  · exact .inl (of_decide_eq_true hc)
                  · exact .inr hc
                · cases t
              · cases t
              · cases t
              · rename_i h1 h2 h3
                cases t
                refine ⟨rfl, .inl ?_⟩
                cases e <;> first | rfl | exact (h1 _ _ _ _ rfl).elim | exact (h2 _ _ _ _ rfl).elim | exact (h3 _ _ _ _ _ rfl).elim
            obtain ⟨rfl, hlc⟩ := key
            have hG := sndG (W := W) (k := k) c.nd n _ _ hi
            unfold wpS at w
            have fin := asg_rd (l := l) (σ := σ) hG cn
            obtain ⟨g1, g2, g3⟩ := pe_name_asg hi
            rcases hlc with hlc | ⟨elt, gs, scope, q, rfl, hlc⟩
            · refine ⟨tAsg (WE W k C e) (WG W k C (.Name x p)), fun X hX => ps_asg (pWE hX) (pWG hX) (show swapsWith e (some (.Name x p)) pos.line X.env = pure false from swap_no hlc _ _ _) ?_, ?_⟩
              · cases e <;> rfl
              · exact ih.E C _ true e e' c he _ _ _ _ _ _ _ S w fin
            · rcases hlc with hlc | hlc
              · refine ⟨tAsg (WE W k C (.ListComp elt gs scope q)) (WG W k C (.Name x p)), fun X hX => ps_asg (pWE hX) (pWG hX) (show swapsWith (.ListComp elt gs scope q) (some (.Name x p)) pos.line X.env = pure false from swap_cell (by rw [hX.sc]; exact hlc)) rfl, ?_⟩
                exact ih.E C _ true _ e' c he _ _ _ _ _ _ _ S w fin
              · unfold lcStore at hlc
                rw [Bool.and_eq_true, Bool.and_eq_true] at hlc
                rw [Bool.and_eq_true] at hlc
                obtain ⟨⟨⟨hk, hl1⟩, hl2⟩, hl3⟩ := hlc
                have hk : C.sc.kind = .function := of_decide_eq_true hk
                have hl1 : C.sc.names.lookup x = some .local := of_decide_eq_true hl1
                have hl3 : (scope.names.any fun (n, k) => n == x && (k == .local || k == .cell)) = false := by simpa using hl3
                cases n with
                | zero => cases he
                | succ m =>
                  have ihm := snd_all (W := W) (k := k) (F := F) m
                  obtain ⟨tg, iter, ifs, rfl, he⟩ := trE_lc he
                  have lc := fun (Q : VK) (qq : Cont W l σ u G H (fun d u1 => wpG (.slot i) d l fun l1 => K l1 u1) Q) => lc_parts ihm c he _ Q S w qq
                  obtain ⟨hset, hblk, rd⟩ := lc (fun v H' => D.nx (σ.set i (some v)) H') (fun v d u1 G1 H1 e1 S1 D1 w1 => cn _ _ _ _ _ e1 (S1.set D1) w1)
                  refine ⟨tAsg (tLc (WI W k C tg iter) (WG W k (C.blk scope) tg) (WF W k (C.blk scope) ifs) (WE W k (C.blk scope) elt) ((ownOf C.N scope).map (fun x : Str × Nat => x.snd))) (gName i), fun X hX => ?_, rd⟩
                  refine ps_setLc (i := i) hX.calm (by rw [hX.N]; exact c.nd) (by rw [hX.N]; exact g1) (by rw [hX.sc]; exact hl1) (sw_true (by rw [hX.sc]; exact hk) (by rw [hX.sc]; exact hl1) hl2 hl3) (pWI hX) (hblk X hX) (fun s H cc cl fp => pWG (hX.blk s H scope cl cc fp)) (fun s H cc cl fp => pWF (hX.blk s H scope cl cc fp)) (fun s H cc cl fp => pWE (hX.blk s H scope cl cc fp)) (fun y => not_set hset _ _)
          · cases t
        · cases t
      · rename_i ts kk p e pos
        split at t
        · cases t
        · rename_i hlc
          have hlc : isLc e = false ∧ isTuple e = false := by
            cases h1 : isLc e <;> cases h2 : isTuple e <;> simp [h1, h2] at hlc ⊢
          split at t
          · rename_i g e' hg he
            cases t
            unfold wpS at w
            refine ⟨tAsg (WE W k C e) (WG W k C (.Tuple ts kk p)), fun X hX => ps_asg (pWE hX) (pWG hX) (show swapsWith e (some (.Tuple ts kk p)) pos.line X.env = pure false from swap_no hlc.1 _ _ _) ?_, ?_⟩
            · have h2 := hlc.2
              cases e <;> first | rfl | cases h2
            · exact ih.E C .no false e e' c he _ _ _ _ _ _ _ S w (asg_rd (sndG c.nd n _ _ hg) cn)
          · cases t
      · rename_i a i p e pos
        split at t
        · cases t
        · rename_i hlc
          have hlc : isLc e = false ∧ isSlice i = false := by
            cases h1 : isLc e <;> cases h2 : isSlice i <;> simp [h1, h2] at hlc ⊢
          split at t
          · rename_i e' a' i' he ha hi
            cases t
            unfold wpS at w
            refine ⟨tAsg (WE W k C e) (gSub (WE W k C a) (WE W k C i) rSetL), fun X hX => ps_asg (pWE hX) ?_ (show swapsWith e (some (.Subscript a i p)) pos.line X.env = pure false from swap_no hlc.1 _ _ _) ?_, ?_⟩
            · refine pg_sub (pWE hX) (pWE hX) set_list ?_
              have h2 := hlc.2
              intro v
              cases i <;> first | rfl | cases h2
            · cases e <;> rfl
            · refine ih.E C .no false e e' c he _ _ _ _ _ _ _ S w fun v d u1 G1 H1 e1 S1 D1 w1 => ?_
              refine ih.E C .no false a a' c ha _ _ _ _ _ _ _ S1 w1 fun x d2 u2 G2 H2 e2 S2 D2 w2 => ?_
              refine ih.E C .no false i i' c hi _ _ _ _ _ _ _ S2 w2 fun y d3 u3 G3 H3 e3 S3 D3 w3 => ?_
              obtain ⟨q, ds, kk, j, rfl, hq, rfl, hj, w3⟩ := w3
              cases D2
              cases D3
              obtain ⟨vs, hv, nn, r⟩ := S3.mu.lst hq
              obtain ⟨S4, e4⟩ := S3.wr (mem_adrs (get_mem hq)) (c := .lst (ds.set j d)) (o := .lst (vs.set j v)) (fun H' h' => ⟨_, h', by rw [List.length_set]; exact nn, DatL.set (D1.mono (e2.trans e3).g) j r⟩)
              exact ⟨q, vs, kk, j, rfl, rfl, hv, by rw [r.length]; exact hj, cn _ _ _ _ _ (((e1.trans e2).trans e3).trans e4) S4 w3⟩
          · cases t
      · rename_i a x p e pos
        split at t
        · cases t
        · rename_i hlc
          have hlc : isLc e = false ∧ byBase a = true := by
            cases h1 : isLc e <;> cases h2 : byBase a <;> simp [h1, h2] at hlc ⊢
          split at t
          · rename_i i hi
            split at t
            · rename_i e' a' he ha
              cases t
              unfold wpS at w
              have hx : atn i = x := by
                have h2 := posOf_get hi
                rw [Nat.sub_zero] at h2
                have hlt : i < 11 := (List.getElem?_eq_some_iff.mp h2.2).1
                match i, hlt, h2.2 with
                | 0, _, h => exact Option.some.inj h
                | 1, _, h => exact Option.some.inj h
                | 2, _, h => exact Option.some.inj h
                | 3, _, h => exact Option.some.inj h
                | 4, _, h => exact Option.some.inj h
                | 5, _, h => exact Option.some.inj h
                | 6, _, h => exact Option.some.inj h
                | 7, _, h => exact Option.some.inj h
                | 8, _, h => exact Option.some.inj h
                | 9, _, h => exact Option.some.inj h
                | 10, _, h => exact Option.some.inj h
              subst hx
              refine ⟨sFld W.K (WE W k C a) (WE W k C e) (atn i), fun X hX => ?_, ?_⟩
              · rw [← hX.K]
                exact ps_fld (pWE hX) (pWE hX) (swap_no hlc.1 _ _ _)
              · refine ih.E C _ false e e' c he _ _ _ _ _ _ _ S w fun v d u1 G1 H1 e1 S1 D1 w1 => ?_
                refine ih.E C .no false a a' c ha _ _ _ _ _ _ _ S1 w1 fun y d2 u2 G2 H2 e2 S2 D2 w2 => ?_
                obtain ⟨q, cc, fs, rfl, hq, hn, hl, hi11, w2⟩ := w2
                cases D2
                obtain ⟨_, lc, dx, vs, hv, r⟩ := S2.mu.get hq
                obtain ⟨S3, e3⟩ := S2.wr (mem_adrs (get_mem hq)) (c := .ins cc (fs ++ [(i, d)])) (o := .ins (W.cl cc) dx (putF (atn i) v vs)) (fun H' h' => ⟨lc, dx, _, h', DatF.putF hi11 (D1.mono e2.g) r hn⟩)
                exact ⟨q, W.cl cc, dx, vs, rfl, hv, c.w.cls cc lc, c.w.noat cc i lc hi11, by rw [r.length]; omega, cn _ _ _ _ _ ((e1.trans e2).trans e3) S3 w2⟩
            · cases t
          · cases t
      · rename_i a i p e pos
        split at t
        · cases t
        · rename_i hsl
          have hsl : isSlice i = false := by simpa using hsl
          split at t
          · rename_i a' i' e' ha hi he
            cases t
            unfold wpS at w
            refine ⟨tAugS (WE W k C a) (WE W k C i) (WE W k C e) (rGetL W.K) (ipI fun x y => x + y) rSetL, fun X hX => ?_, ?_⟩
            · rw [← hX.K]
              refine ps_augS (pWE hX) (pWE hX) get_list (pWE hX) ip_add set_list ?_
              intro ov iv new
              cases i <;> first | rfl | cases hsl
            · refine ih.E C .no false a a' c ha _ _ _ _ _ _ _ S w fun x d1 u1 G1 H1 e1 S1 D1 w1 => ?_
              refine ih.E C .no false i i' c hi _ _ _ _ _ _ _ S1 w1 fun y d2 u2 G2 H2 e2 S2 D2 w2 => ?_
              obtain ⟨q, ds, kk, j, m, rfl, hq, rfl, hj, hm, w2⟩ := w2
              cases D1
              cases D2
              obtain ⟨vs, hv, nn, r⟩ := S2.mu.lst hq
              obtain ⟨z, hz, Dz⟩ := r.get hm
              cases Dz
              refine ⟨q, vs, kk, j, .int m, rfl, rfl, SqL.of hv, by rw [r.length]; exact hj, hz, ?_⟩
              refine ih.E C .no false e e' c he _ _ _ _ _ _ _ S2 w2 fun v d3 u3 G3 H3 e3 S3 D3 w3 => ?_
              obtain ⟨m2, rfl, rfl, w3⟩ := w3
              cases D3
              obtain ⟨vs3, hv3, nn3, r3⟩ := S3.mu.lst hq
              obtain ⟨S4, e4⟩ := S3.wr (mem_adrs (get_mem hq)) (c := .lst (ds.set j (.int (m + m2)))) (o := .lst (vs3.set j (.int (m + m2)))) (fun H' h' => ⟨_, h', by rw [List.length_set]; exact nn3, DatL.set (.int _) j r3⟩)
              exact ⟨m, m2, rfl, rfl, q, vs3, kk, j, rfl, rfl, hv3, by rw [r3.length]; exact hj, cn _ _ _ _ _ (((e1.trans e2).trans e3).trans e4) S4 w3⟩
          · cases t
      · rename_i e pos
        split at t
        · cases t
        · rename_i hlc
          have hlc : isLc e = false := by simpa using hlc
          obtain ⟨e', he, rfl⟩ := op1 t
          unfold wpS at w
          refine ⟨tDrop (WE W k C e), fun X hX => ps_expr (pWE hX) (swap_no hlc _ _ _), ?_⟩
          exact ih.E C .no false e e' c he _ _ _ _ _ _ _ S w fun v d u1 G1 H1 e1 S1 D1 w1 => cn _ _ _ _ _ e1 S1 w1
      · rename_i e pos
        obtain ⟨e', he, rfl⟩ := op1 t
        unfold wpS at w
        refine ⟨tRet (WE W k C e), fun X hX => ps_ret (pWE hX), ?_⟩
        exact ih.E C _ true e e' c he _ _ _ _ _ _ _ S w fun v d u1 G1 H1 e1 S1 D1 w1 => cr _ _ _ _ _ e1 S1.mu D1 w1
      · rename_i tt a b pos
        split at t
        · rename_i t' a' b' ht ha hb
          cases t
          unfold wpS at w
          refine ⟨tIfS (WT W k C tt) (WSs W k C a) (WSs W k C b), fun X hX => ps_if (pWT hX) (pWSs hX) (pWSs hX), ?_⟩
          refine ih.T C tt t' c ht _ _ _ _ _ _ _ S w fun kk u1 G1 H1 e1 S1 w1 => ?_
          cases kk with
          | true => exact ihB a a' ha _ _ _ _ _ _ _ D S1 (w1.1 rfl) (cn.tr e1) (cr.tr e1)
          | false => exact ihB b b' hb _ _ _ _ _ _ _ D S1 (w1.2 rfl) (cn.tr e1) (cr.tr e1)
        · cases t
      · rename_i tg it b pos
        split at t
        · cases t
        · rename_i hset
          have hset : isSet it = false := by simpa using hset
          split at t
          · rename_i g i b' hg hi hb
            cases t
            refine ⟨tFor (WI W k C tg it) (WG W k C tg) (WSs W k C b), fun X hX => ?_, ?_⟩
            · exact ps_for (by rw [hX.xe]; exact PassesOwn.never) hX.calm (pWI hX) (pWG hX) (pWSs hX) (fun y => not_set hset _ _)
            · exact for_rd (fun K R w q => ih.I C tg it i c hset hi _ _ _ _ _ _ _ S w q) (sndG c.nd n _ _ hg) (ihB b b' hb) w cn cr
          · cases t
      · rename_i tt b pos
        split at t
        · rename_i t' b' ht hb
          cases t
          refine ⟨tWhile (WT W k C tt) (WSs W k C b), fun X hX => ps_while (by rw [hX.xe]; exact PassesOwn.never) (pWT hX) (pWSs hX), ?_⟩
          exact while_rd (fun l σ u G H K Q S w q => ih.T C tt t' c ht _ _ _ _ _ _ _ S w q) (ihB b b' hb) S w cn cr
        · cases t
      · cases t
        unfold wpS at w
        exact w.elim
      · cases t
    · intro b b' t l σ u G H K R D S w cn cr
      unfold trSs at t
      split at t
      · cases t
        unfold wpS at w
        exact ⟨tNext, fun X hX => pss_nil, cn.at S w⟩
      · rename_i s
        obtain ⟨a, ha, rfl⟩ := op1 t
        exact ⟨WS W k C s, fun X hX => pss_one (pWS hX), add_rd (ihS s a ha) l σ u G H K R D S w cn cr⟩
      · rename_i s s2 r
        split at t
        · rename_i a' b2 ha hb
          cases t
          unfold wpS at w
          refine ⟨tSeq (WS W k C s) (WSs W k C (s2 :: r)), fun X hX => pss_cons (pWS hX) (pWSs hX), ?_⟩
          refine add_rd (ihS s a' ha) _ _ _ _ _ _ _ { D with nx := WSs W k C (s2 :: r) D } S w (fun l1 u1 σ1 G1 H1 e1 S1 w1 => ?_) cr
          exact ihB (s2 :: r) b2 hb _ _ _ _ _ _ _ D S1 w1 (cn.tr e1) (cr.tr e1)
        · cases t
end
end Ob
/-! part Oh -/
/-! A def keeps its promise if its short text does. -/
namespace Ob
open PySem L2

/-- the slots when a def begins -/
def st0 (n : Nat) (ds : List Dt) : Dl := ds.map some ++ List.replicate (n - ds.length) none
theorem st0_ok {W : Wd} {G H : Hp} {u : Mu} {N : List Str} {vs : List V} {ds : List Dt} (s : Same G H) (m : MuOk W G H u) (r : DatL W G vs ds) : StA W G H (st0 N.length ds) u (L2.start N vs) := by
  refine ⟨s, m, ?_, fun i d h => ?_⟩
  · unfold L2.start st0
    rw [List.length_append, List.length_append, List.length_map, List.length_map, List.length_replicate, List.length_replicate, r.length]
  · unfold st0 at h
    by_cases q : i < ds.length
    · rw [List.getElem?_append_left (by rw [List.length_map]; exact q), List.getElem?_map, List.getElem?_eq_getElem q] at h
      have hd : ds[i] = d := Option.some.inj (Option.some.inj h)
      obtain ⟨v, h1, h2⟩ := r.get (i := i) (d := d) (by rw [List.getElem?_eq_getElem q, hd])
      refine ⟨v, ?_, h2⟩
      unfold L2.start
      rw [List.getElem?_append_left (by rw [List.length_map, r.length]; exact q), List.getElem?_map, h1]
      rfl
    · rw [List.getElem?_append_right (by rw [List.length_map]; omega)] at h
      rw [List.getElem?_replicate] at h
      split at h <;> cases h
/-- the short text does what the promise says; cells of its own may be left behind -/
def Does (F : Nat → FS) (n p : Nat) (b : Sx) (S : FS) : Prop := ∀ ds u K, S ds u K → ds.length = p ∧ wpS F b (st0 n ds) u (fun _ u' => ∃ u2 : Mu, u2.Sublist u' ∧ K .non u2) (fun d u' => ∃ u2 : Mu, u2.Sublist u' ∧ K d u2)
theorem mu_less {W : Wd} {G H : Hp} {u u2 : Mu} (m : MuOk W G H u) (h : u2.Sublist u) : MuOk W G H u2 := ⟨m.nd.sublist (h.map _), fun p c hp => m.at_ p c (h.mem hp)⟩
theorem ext_less {M : List Addr} {u u2 : Mu} {G H G' H' : Hp} (e : Ext M (adrs u) G H G' H') (h : u2.Sublist u) : Ext M (adrs u2) G H G' H' := ⟨e.g, e.s, e.new, e.fr, fun p hp => e.ad p ((h.map _).mem hp)⟩
theorem def_ok {W : Wd} {k : Nat} {F : Nat → FS} {C : Ctx} {x qual : Str} {params : Arguments} {body : List Stmt} {scope : Scope} {f : Addr} {fd : FuncData} {ps : List Str} {S : FS} {b : Sx} {n : Nat}
    (D : FunD W.K x qual params body scope [] [] f fd) (sc : FnScope C.N ps scope) (hs : C.sc = scope) (c : CtxOk W k F C) (t : trSs n C body = some b) (h : Does F C.N.length ps.length b S) :
    FnOk W.P W.w W.K W.mg W.base CX0 (k + 1) f fd ps (spF W S) := by
  refine D.ok sc (fun vs H Q E z => ?_) (fun cdv A outer s H vs Q E hr z => ?_)
  · obtain ⟨G, ds, u, K, s1, r, m, w, _⟩ := z
    rw [r.length]
    exact (h ds u K w).1
  · obtain ⟨G, ds, u, K, s1, r, m, w, q⟩ := z
    have hX : InC W k C (cxOf CX0 W.P W.w W.K W.mg W.base C.N qual scope f cdv A outer s H E).nox := ⟨rfl, hs.symm, fun _ _ => rfl, rfl, rfl, rfl, rfl, rfl, rfl, hr, rfl⟩
    obtain ⟨t', h1, h2⟩ := (sndS c n).2 body b t _ _ _ _ _ _ _ { nx := fun _ H' => Q .non H', rt := Q } (st0_ok (N := C.N) s1 m r) (h ds u K w).2
      (fun l' u' σ' G' H' e S' ⟨u2, hs, kk⟩ => q _ _ _ _ _ (ext_less e hs) (mu_less S'.mu hs) .non kk) (fun v d u' G' H' e m' D' ⟨u2, hs, kk⟩ => q v d _ _ _ (ext_less e hs) (mu_less m' hs) D' kk)
    exact ⟨t', (h1 _ hX).nox, h2⟩
theorem fn_at {W : Wd} {k : Nat} {x : Str} {f : Addr} {fd : FuncData} {ps : List Str} {S : FS} (hm : W.mg x = some (.ref f)) (hk : PySem.W.keepIn W.K (.ref f) = true) (hb : Binds W.K fd ps []) (h : FnOk W.P W.w W.K W.mg W.base CX0 k f fd ps (spF W S)) : FnAt W k x S :=
  ⟨f, fd, ps, hm, hk, hb, h⟩
theorem FnAt.mono {W : Wd} {k k' : Nat} {x : Str} {S : FS} (h : FnAt W k x S) (l : k ≤ k') : FnAt W k' x S := by
  obtain ⟨f, fd, ps, h1, h2, h3, h4⟩ := h
  exact ⟨f, fd, ps, h1, h2, h3, h4.mono l⟩
theorem MtAt.mono {W : Wd} {k k' : Nat} {x : Str} {c : Nat} {S : FS} (h : MtAt W k x c S) (l : k ≤ k') : MtAt W k' x c S := by
  obtain ⟨lc, f, fd, ps, h1, h3, h4⟩ := h
  exact ⟨lc, f, fd, ps, h1, h3, h4.mono l⟩
theorem NwAt.mono {W : Wd} {k k' : Nat} {x : Str} {c : Nat} {S : FS} (h : NwAt W k x c S) (l : k ≤ k') : NwAt W k' x c S := by
  obtain ⟨lc, f, fd, ps, j, h0, h1, h2, h3, h4⟩ := h
  exact ⟨lc, f, fd, ps, j, Nat.le_trans h0 l, h1, h2, h3, h4⟩
end Ob
/-! part Oi -/
/-! The defs of the text by their places, their names by slots, what stays open of new lists. -/
namespace Ob
open PySem L2
def top (i : Nat) : Stmt := PySem.Challenge.pw_someobjects_k23_whole_machines_asked_in.main.body.getD i (.Pass ⟨0, 0, 0, 0⟩)
abbrev s_nodes_of : Stmt := (top 4)
def n_nodes_of : List Str := ["tree", "found", "ready", "left", "node", "below", "count", "own", "child"]
def c_nodes_of : Ctx := { N := n_nodes_of, sc := defScope s_nodes_of, fn := fun _ => true, mu := [(1, (.h true [])), (3, (.h true []))], fzs := [1] }
abbrev s_counted : Stmt := (top 6)
def n_counted : List Str := ["machine", "tree", "done", "letter", "children", "row", "own", "below", "label", "count", "child", "more"]
def c_counted : Ctx := { N := n_counted, sc := defScope s_counted, fn := fun _ => true, fns := [("nodes_of", 0)], mu := [(2, (.h true [])), (5, (.h true []))], fzs := [5] }
abbrev s_ways : Stmt := (top 7)
def n_ways : List Str := ["machine", "tree", "label", "count"]
def c_ways : Ctx := { N := n_ways, sc := defScope s_ways, fn := fun _ => true, fns := [("counted", 1)] }
abbrev s_wishes : Stmt := (top 8)
def n_wishes : List Str := ["machine", "tree"]
def c_wishes : Ctx := { N := n_wishes, sc := defScope s_wishes, fn := fun _ => true, fns := [("ways", 2)] }
abbrev s_ring_wishes : Stmt := (top 9)
def n_ring_wishes : List Str := ["machine", "ring", "first", "known", "letter", "moves", "move", "_", "below", "label"]
def c_ring_wishes : Ctx := { N := n_ring_wishes, sc := defScope s_ring_wishes, fn := fun _ => true }
abbrev s_Found_init : Stmt := (inClass (top 11) 0)
def n_Found_init : List Str := ["self", "kind", "cost", "labels", "numbers", "ends"]
def c_Found_init : Ctx := { N := n_Found_init, sc := defScope s_Found_init, fn := fun _ => true, sh := [(1, (.h true [])), (3, (.h true []))] }
abbrev s_better : Stmt := (top 12)
def n_better : List Str := ["one", "other"]
def c_better : Ctx := { N := n_better, sc := defScope s_better, fn := fun _ => true }
abbrev s_below_of : Stmt := (top 13)
def n_below_of : List Str := ["children", "done", "found", "child", "longer", "labels", "cost", "row", "label", "own"]
def c_below_of : Ctx := { N := n_below_of, sc := defScope s_below_of, fn := fun _ => true, mu := [(4, (.h true []))], fzs := [4] }
abbrev s_charged : Stmt := (top 14)
def n_charged : List Str := ["cost", "objects", "fine"]
def c_charged : Ctx := { N := n_charged, sc := defScope s_charged, fn := fun _ => true }
abbrev s_Reckoner_init : Stmt := (inClass (top 15) 0)
def n_Reckoner_init : List Str := ["self", "machine", "prices", "fine", "move"]
def c_Reckoner_init : Ctx := { N := n_Reckoner_init, sc := defScope s_Reckoner_init, fn := fun _ => true }
abbrev s_Reckoner_row : Stmt := (inClass (top 15) 1)
def n_Reckoner_row : List Str := ["self", "at", "letter", "below", "root", "found", "label", "best", "labels", "cost", "row", "objects", "own"]
def c_Reckoner_row : Ctx := { N := n_Reckoner_row, sc := defScope s_Reckoner_row, fn := fun _ => true, fns := [("charged", 8), ("better", 6)], mu := [(5, (.h true []))], fzs := [5] }
abbrev s_cost_of : Stmt := (top 16)
def n_cost_of : List Str := ["pair"]
def c_cost_of : Ctx := { N := n_cost_of, sc := defScope s_cost_of, fn := fun _ => true }
abbrev s_best : Stmt := (top 17)
def n_best : List Str := ["machine", "tree", "prices", "fine", "reckoner", "done", "nodes", "at", "letter", "children", "last", "ends", "numbers", "found", "pair", "costs", "row"]
def c_best : Ctx := { N := n_best, sc := defScope s_best, fn := fun _ => true, fns := [("nodes_of", 0), ("below_of", 7), ("better", 6), ("cost_of", 11)], cls := [("Reckoner", 2, 9), ("Found", 1, 5)], mth := [("row", 2, 10)], mu := [(5, (.h true [])), (12, (.h false [.h true []]))], fzs := [5] }
abbrev s_fewest_objections : Stmt := (top 18)
def n_fewest_objections : List Str := ["machine", "tree", "_"]
def c_fewest_objections : Ctx := { N := n_fewest_objections, sc := defScope s_fewest_objections, fn := fun _ => true, fns := [("best", 12), ("nodes_of", 0)] }
abbrev s_after_change : Stmt := (top 19)
def n_after_change : List Str := ["machine", "tree", "old", "prices", "own", "label"]
def c_after_change : Ctx := { N := n_after_change, sc := defScope s_after_change, fn := fun _ => true, fns := [("best", 12)] }
abbrev s_Machine_init : Stmt := (inClass (top 24) 0)
def n_Machine_init : List Str := ["self", "letters", "labels", "moves", "ends", "letter", "children", "label", "known", "own"]
def c_Machine_init : Ctx := { N := n_Machine_init, sc := defScope s_Machine_init, fn := fun _ => true, cst := [("MOST_LETTERS", 4), ("MOST_LABELS", 8), ("MOST_CHILDREN", 2)] }
abbrev s_Ring_init : Stmt := (inClass (top 26) 0)
def n_Ring_init : List Str := ["self", "machine", "ring", "prices", "fine", "move"]
def c_Ring_init : Ctx := { N := n_Ring_init, sc := defScope s_Ring_init, fn := fun _ => true }
abbrev s_Ring_charge : Stmt := (inClass (top 26) 1)
def n_Ring_charge : List Str := ["self", "cost", "at", "before", "label"]
def c_Ring_charge : Ctx := { N := n_Ring_charge, sc := defScope s_Ring_charge, fn := fun _ => true, fns := [("charged", 8)] }
abbrev s_Ring_rows : Stmt := (inClass (top 26) 2)
def n_Ring_rows : List Str := ["self", "first", "row", "found", "at", "label"]
def c_Ring_rows : Ctx := { N := n_Ring_rows, sc := defScope s_Ring_rows, fn := fun _ => true, mth := [("row", 3, 19)], mu := [(3, (.h true []))], fzs := [3] }
abbrev s_Ring_row : Stmt := (inClass (top 26) 3)
def n_Ring_row : List Str := ["self", "at", "before", "found", "label", "best", "own", "pair", "cost"]
def c_Ring_row : Ctx := { N := n_Ring_row, sc := defScope s_Ring_row, fn := fun _ => true, fns := [("better", 6)], mth := [("charge", 3, 17)], mu := [(3, (.h true []))], fzs := [3] }
abbrev s_Ring_closed : Stmt := (inClass (top 26) 4)
def n_Ring_closed : List Str := ["self", "first", "last", "best", "label", "pair", "cost"]
def c_Ring_closed : Ctx := { N := n_Ring_closed, sc := defScope s_Ring_closed, fn := fun _ => true, fns := [("better", 6)], mth := [("charge", 3, 17)] }
abbrev s_best_ring : Stmt := (top 27)
def n_best_ring : List Str := ["machine", "ring", "prices", "fine", "own", "numbers", "found", "first", "rows", "row", "pair"]
def c_best_ring : Ctx := { N := n_best_ring, sc := defScope s_best_ring, fn := fun _ => true, fns := [("better", 6), ("cost_of", 11)], cls := [("Ring", 3, 16), ("Found", 1, 5)], mth := [("rows", 3, 18), ("closed", 3, 20)], mu := [(5, (.h true []))], ah := (.h false [.h true []]) }
abbrev s_law_pool : Stmt := (top 29)
def n_law_pool : List Str := ["_law_script", "_law_budget"]
def c_law_pool : Ctx := { N := n_law_pool, sc := defScope s_law_pool, fn := fun _ => true, rh := (.h true []) }
abbrev s_law_draw : Stmt := (top 30)
def n_law_draw : List Str := ["_law_pool_here", "_law_size", "_law_cell", "_law_value"]
def c_law_draw : Ctx := { N := n_law_draw, sc := defScope s_law_draw, fn := fun _ => true }
abbrev s_law_same : Stmt := (top 31)
def n_law_same : List Str := ["_law_actual", "_law_due", "_law_k"]
def c_law_same : Ctx := { N := n_law_same, sc := defScope s_law_same, fn := fun _ => true, fns := [("_law_same", 24)] }
abbrev s_law_machine : Stmt := (top 32)
def n_law_machine : List Str := ["_law_pool_here", "_law_letters", "_law_labels", "_law_many", "_law_moves", "_law_k", "_law_count", "_law_children", "_law_ends", "_law_turn", "_law_label"]
def c_law_machine : Ctx := { N := n_law_machine, sc := defScope s_law_machine, fn := fun _ => true, fns := [("_law_draw", 23)], mu := [(4, (.h true []))], fzs := [4] }
abbrev s_law_tree : Stmt := (top 33)
def n_law_tree : List Str := ["_law_pool_here", "_law_letters", "_law_left", "_law_letter", "_law_count", "_law_children", "_law_k"]
def c_law_tree : Ctx := { N := n_law_tree, sc := defScope s_law_tree, fn := fun _ => true, fns := [("_law_draw", 23), ("_law_tree", 26)], mu := [(5, (.h true []))], fzs := [5] }
abbrev s_law_nodes : Stmt := (top 34)
def n_law_nodes : List Str := ["_law_tree_here", "_law_found", "_law_places", "_law_child", "_law_below", "_law_shift", "_law_letter", "_law_children", "_law_own"]
def c_law_nodes : Ctx := { N := n_law_nodes, sc := defScope s_law_nodes, fn := fun _ => true, fns := [("_law_nodes", 27)], mu := [(2, (.h true []))], fzs := [2] }
abbrev s_law_row_tree : Stmt := (top 35)
def n_law_row_tree : List Str := ["_law_row", "_law_tree_here", "_law_letter"]
def c_law_row_tree : Ctx := { N := n_law_row_tree, sc := defScope s_law_row_tree, fn := fun _ => true }
abbrev s_law_shape : Stmt := (top 36)
def n_law_shape : List Str := ["_law_pool_here", "_law_letters", "_law_most", "_law_k"]
def c_law_shape : Ctx := { N := n_law_shape, sc := defScope s_law_shape, fn := fun _ => true, fns := [("_law_tree", 26), ("_law_draw", 23), ("_law_row_tree", 28)], cah := [("_law_tree", (.h false [.no, .no, .h true []]))] }
abbrev s_law_objects : Stmt := (top 37)
def n_law_objects : List Str := ["_law_machine_here", "_law_nodes_here", "_law_labels", "_law_found", "_law_at", "_law_letter", "_law_children", "_law_good", "_law_child"]
def c_law_objects : Ctx := { N := n_law_objects, sc := defScope s_law_objects, fn := fun _ => true, mu := [(3, (.h true []))], fzs := [3] }
abbrev s_law_lists : Stmt := (top 38)
def n_law_lists : List Str := ["_law_count", "_law_labels", "_law_found", "_law_k", "_law_longer", "_law_row", "_law_label"]
def c_law_lists : Ctx := { N := n_law_lists, sc := defScope s_law_lists, fn := fun _ => true }
abbrev s_law_made : Stmt := (top 39)
def n_law_made : List Str := ["_law_machine_here"]
def c_law_made : Ctx := { N := n_law_made, sc := defScope s_law_made, fn := fun _ => true, cls := [("Machine", 0, 15)] }
abbrev s_law_prices : Stmt := (top 40)
def n_law_prices : List Str := ["_law_pool_here", "_law_count", "_law_labels", "_law_wide", "_law_k", "_law_label"]
def c_law_prices : Ctx := { N := n_law_prices, sc := defScope s_law_prices, fn := fun _ => true, fns := [("_law_draw", 23)], rh := (.h false [.h true []]) }
abbrev s_law_cost : Stmt := (top 41)
def n_law_cost : List Str := ["_law_prices_here", "_law_fine", "_law_labels", "_law_count", "_law_whole", "_law_k"]
def c_law_cost : Ctx := { N := n_law_cost, sc := defScope s_law_cost, fn := fun _ => true }
abbrev s_law_ring_objects : Stmt := (top 42)
def n_law_ring_objects : List Str := ["_law_machine_here", "_law_ring", "_law_labels", "_law_k"]
def c_law_ring_objects : Ctx := { N := n_law_ring_objects, sc := defScope s_law_ring_objects, fn := fun _ => true }
abbrev s_law_best : Stmt := (top 43)
def n_law_best : List Str := ["_law_lists_here", "_law_costs", "_law_best_one", "_law_k"]
def c_law_best : Ctx := { N := n_law_best, sc := defScope s_law_best, fn := fun _ => true }
abbrev s_law_least : Stmt := (top 44)
def n_law_least : List Str := ["_law_rows", "_law_costs", "_law_cost_here"]
def c_law_least : Ctx := { N := n_law_least, sc := defScope s_law_least, fn := fun _ => true }
abbrev s_law_root_row : Stmt := (top 45)
def n_law_root_row : List Str := ["_law_machine_here", "_law_letter", "_law_below", "_law_prices_here", "_law_fine", "_law_root", "_law_found", "_law_label", "_law_costs", "_law_children", "_law_parts", "_law_whole", "_law_good", "_law_k"]
def c_law_root_row : Ctx := { N := n_law_root_row, sc := defScope s_law_root_row, fn := fun _ => true, fns := [("_law_lists", 31), ("_law_least", 37)], mu := [(6, (.h true [])), (8, (.h true []))], fzs := [6, 8], cfz := ["_law_least"] }
abbrev s_law_numbers : Stmt := (top 46)
def n_law_numbers : List Str := ["_law_machine_here", "_law_nodes_here", "_law_prices_here", "_law_fine", "_law_numbers_here", "_law_at", "_law_letter", "_law_children", "_law_ends", "_law_child"]
def c_law_numbers : Ctx := { N := n_law_numbers, sc := defScope s_law_numbers, fn := fun _ => true, fns := [("_law_root_row", 38)], mu := [(4, (.h true []))], fzs := [4] }
abbrev s_law_step : Stmt := (top 47)
def n_law_step : List Str := ["_law_machine_here", "_law_letter", "_law_before", "_law_prices_here", "_law_fine", "_law_found", "_law_label", "_law_costs", "_law_own"]
def c_law_step : Ctx := { N := n_law_step, sc := defScope s_law_step, fn := fun _ => true, fns := [("_law_least", 37)], mu := [(5, (.h true [])), (7, (.h true []))], fzs := [5, 7], cfz := ["_law_least"] }
abbrev s_law_ring_numbers : Stmt := (top 48)
def n_law_ring_numbers : List Str := ["_law_machine_here", "_law_ring", "_law_prices_here", "_law_fine", "_law_numbers_here", "_law_whole", "_law_first", "_law_rows", "_law_at"]
def c_law_ring_numbers : Ctx := { N := n_law_ring_numbers, sc := defScope s_law_ring_numbers, fn := fun _ => true, fns := [("_law_least", 37), ("_law_step", 40)], mu := [(4, (.h true [])), (5, (.h true [])), (7, (.h true [.h true []]))], fzs := [4, 5], cfz := ["_law_least"], pfz := [("_law_rows", 7)] }
abbrev s_law_tree_due : Stmt := (top 49)
def n_law_tree_due : List Str := ["_law_machine_here", "_law_tree_here", "_law_prices_here", "_law_fine", "_law_old", "_law_nodes_here", "_law_lists_here", "_law_counts", "_law_priced", "_law_far", "_law_k", "_law_own", "_law_whole", "_law_zeros", "_law_changed", "_law_numbers_here", "_law_founds", "_law_labels", "_law_at", "_law_count", "_law_label"]
def c_law_tree_due : Ctx := { N := n_law_tree_due, sc := defScope s_law_tree_due, fn := fun _ => true, fns := [("_law_nodes", 27), ("_law_lists", 31), ("_law_best", 36), ("_law_numbers", 39), ("_law_objects", 30), ("_law_cost", 34)], mu := [(9, (.h true []))], fzs := [9], cfz := ["_law_best"] }
abbrev s_law_tree_told : Stmt := (top 50)
def n_law_tree_told : List Str := ["_law_made_here", "_law_tree_here", "_law_prices_here", "_law_fine", "_law_old", "_law_founds", "_law_told", "_law_found", "_law_row"]
def c_law_tree_told : Ctx := { N := n_law_tree_told, sc := defScope s_law_tree_told, fn := fun _ => true, fns := [("best", 12), ("fewest_objections", 13), ("after_change", 14), ("ways", 2), ("wishes", 3)], mu := [(6, (.h true []))] }
abbrev s_law_ring_due : Stmt := (top 51)
def n_law_ring_due : List Str := ["_law_machine_here", "_law_ring", "_law_prices_here", "_law_fine", "_law_lists_here", "_law_counts", "_law_best_one", "_law_labels", "_law_k"]
def c_law_ring_due : Ctx := { N := n_law_ring_due, sc := defScope s_law_ring_due, fn := fun _ => true, fns := [("_law_lists", 31), ("_law_best", 36), ("_law_ring_objects", 35), ("_law_cost", 34), ("_law_ring_numbers", 41)] }
abbrev s_law_ring_told : Stmt := (top 52)
def n_law_ring_told : List Str := ["_law_made_here", "_law_ring", "_law_prices_here", "_law_fine", "_law_found", "_law_told", "_law_rows", "_law_row"]
def c_law_ring_told : Ctx := { N := n_law_ring_told, sc := defScope s_law_ring_told, fn := fun _ => true, fns := [("best_ring", 21), ("ring_wishes", 4)] }
abbrev s_law_moved : Stmt := (top 53)
def n_law_moved : List Str := ["_law_prices_here", "_law_old", "_law_ring", "_law_more", "_law_letters", "_law_labels", "_law_row"]
def c_law_moved : Ctx := { N := n_law_moved, sc := defScope s_law_moved, fn := fun _ => true }
abbrev s_law : Stmt := (top 54)
def n_law : List Str := ["_law_script", "_law_pool_here", "_law_letters", "_law_labels", "_law_machines", "_law_made_here", "_law_asks", "_law_k", "_law_tree_here", "_law_count", "_law_ring", "_law_turn", "_law_at", "_law_prices_here", "_law_fine", "_law_old", "_law_more", "_law_machine_here"]
def c_law : Ctx := { N := n_law, sc := defScope s_law, fn := fun _ => true, fns := [("_law_pool", 22), ("_law_draw", 23), ("_law_machine", 25), ("_law_made", 32), ("_law_shape", 29), ("_law_nodes", 27), ("_law_moved", 46), ("_law_prices", 33), ("_law_same", 24), ("_law_tree_told", 43), ("_law_tree_due", 42), ("_law_ring_told", 45), ("_law_ring_due", 44)], mu := [(6, (.h true [])), (10, (.h true []))], ah := (.h false [.no, .no, .no, .h true []]), bors := ["_law_same"], pfz := [("_law_turn", 6)] }
end Ob
/-! part Oj -/
/-! The short bodies, and that they are the text's. -/
namespace Ob
open PySem L2
def b_nodes_of : Sx := (.seq (.asg (.slot 1) (.lst true .nil)) <|
  (.seq (.asg (.slot 2) (.lst false .nil)) <|
  (.seq (.asg (.slot 3) (.lst true (.cons (.tup (.cons (.slot 0) (.cons (.c (.bl false)) .nil))) .nil))) <|
  (.seq (.whil (.tv (.slot 3)) (.seq (.asg (.gTup (.cons (.slot 4) (.cons (.slot 5) .nil))) (.pop (.slot 3))) <|
  (.iff (.tv (.slot 5)) (.seq (.asg (.slot 6) (.len (.ix (.slot 4) (.c (.int 1))))) <|
  (.seq (.asg (.slot 7) (.cut false (.slot 2) (.tv (.bin .Sub false (.len (.slot 2)) (.slot 6))) .noE)) <|
  (.seq (.asg (.slot 2) (.bin .Add false (.cut false (.slot 2) .noE (.tv (.bin .Sub false (.len (.slot 2)) (.slot 6)))) (.lst false (.cons (.len (.slot 1)) .nil)))) <|
  (.drop (.app (.slot 1) (.tup (.cons (.ix (.slot 4) (.c (.int 0))) (.cons (.tuple (.slot 7)) .nil)))))))) (.seq (.drop (.app (.slot 3) (.tup (.cons (.slot 4) (.cons (.c (.bl true)) .nil))))) <|
  (.drop (.exd (.slot 3) (.lc false [8] (.tup (.cons (.slot 8) (.cons (.c (.bl false)) .nil))) (.slot 8) (.iRev (.ix (.slot 4) (.c (.int 1)))) .noE))))))) <|
  (.ret (.fz (.slot 1)))))))
theorem t_nodes_of : trSs 60 c_nodes_of (defBody s_nodes_of) = some b_nodes_of := by kernel_rfl
theorem sc_nodes_of : FnScope n_nodes_of ["tree"] (defScope s_nodes_of) := ⟨by kernel_rfl, by kernel_rfl, by kernel_rfl, by decide +kernel, by kernel_rfl, by decide +kernel, by decide +kernel⟩
def b_counted : Sx := (.seq (.asg (.slot 2) (.lst true .nil)) <|
  (.seq (.forr (.gTup (.cons (.slot 3) (.cons (.slot 4) .nil))) (.iSeq (.call 0 (.cons (.slot 1) .nil))) (.seq (.asg (.slot 5) (.bin .Mult true (.lst false (.cons (.c (.int 0)) .nil)) (.att (.slot 0) 1))) <|
  (.seq (.forr (.gTup (.cons (.slot 6) (.cons (.slot 7) (.cons (.slot 8) .nil)))) (.iSeq (.att (.slot 0) 2)) (.iff (.tand (.tv (.cmp .Eq (.slot 6) (.slot 3))) (.tv (.cmp .Eq (.len (.slot 7)) (.len (.slot 4))))) (.seq (.asg (.slot 9) (.c (.int 1))) <|
  (.seq (.forr (.gTup (.cons (.slot 10) (.cons (.slot 11) .nil))) (.iZip (.slot 4) (.slot 7)) (.asg (.slot 9) (.bin .Mult false (.slot 9) (.ix (.ix (.slot 2) (.slot 10)) (.slot 11))))) <|
  (.augi (.slot 5) (.slot 8) (.slot 9)))) .skip)) <|
  (.drop (.app (.slot 2) (.fz (.slot 5))))))) <|
  (.ret (.ix (.slot 2) (.neg (.c (.int 1)))))))
theorem t_counted : trSs 60 c_counted (defBody s_counted) = some b_counted := by kernel_rfl
theorem sc_counted : FnScope n_counted ["machine", "tree"] (defScope s_counted) := ⟨by kernel_rfl, by kernel_rfl, by kernel_rfl, by decide +kernel, by kernel_rfl, by decide +kernel, by decide +kernel⟩
def b_ways : Sx := (.ret (.sum (.lc false [2, 3] (.slot 3) (.gTup (.cons (.slot 2) (.cons (.slot 3) .nil))) (.iEnum (.call 1 (.cons (.slot 0) (.cons (.slot 1) .nil)))) (.tv (.cmp .In (.slot 2) (.att (.slot 0) 3))))))
theorem t_ways : trSs 60 c_ways (defBody s_ways) = some b_ways := by kernel_rfl
theorem sc_ways : FnScope n_ways ["machine", "tree"] (defScope s_ways) := ⟨by kernel_rfl, by kernel_rfl, by kernel_rfl, by decide +kernel, by kernel_rfl, by decide +kernel, by decide +kernel⟩
def b_wishes : Sx := (.ret (.cmp .Gt (.call 2 (.cons (.slot 0) (.cons (.slot 1) .nil))) (.c (.int 0))))
theorem t_wishes : trSs 60 c_wishes (defBody s_wishes) = some b_wishes := by kernel_rfl
theorem sc_wishes : FnScope n_wishes ["machine", "tree"] (defScope s_wishes) := ⟨by kernel_rfl, by kernel_rfl, by kernel_rfl, by decide +kernel, by kernel_rfl, by decide +kernel, by decide +kernel⟩
def b_ring_wishes : Sx := (.seq (.forr (.slot 2) (.iRan (.att (.slot 0) 1)) (.seq (.asg (.slot 3) (.lst false (.cons (.slot 2) .nil))) <|
  (.seq (.forr (.slot 4) (.iSeq (.slot 1)) (.seq (.asg (.slot 5) (.lc false [6] (.slot 6) (.slot 6) (.iSeq (.att (.slot 0) 2)) (.tand (.tv (.cmp .Eq (.ix (.slot 6) (.c (.int 0))) (.slot 4))) (.tv (.cmp .Eq (.len (.ix (.slot 6) (.c (.int 1)))) (.c (.int 1))))))) <|
  (.asg (.slot 3) (.lc false [7, 8, 9] (.slot 9) (.gTup (.cons (.slot 7) (.cons (.slot 8) (.cons (.slot 9) .nil)))) (.iSeq (.slot 5)) (.tv (.cmp .In (.ix (.slot 8) (.c (.int 0))) (.slot 3))))))) <|
  (.iff (.tv (.cmp .In (.slot 2) (.slot 3))) (.ret (.c (.bl true))) .skip)))) <|
  (.ret (.c (.bl false))))
theorem t_ring_wishes : trSs 60 c_ring_wishes (defBody s_ring_wishes) = some b_ring_wishes := by kernel_rfl
theorem sc_ring_wishes : FnScope n_ring_wishes ["machine", "ring"] (defScope s_ring_wishes) := ⟨by kernel_rfl, by kernel_rfl, by kernel_rfl, by decide +kernel, by kernel_rfl, by decide +kernel, by decide +kernel⟩
def b_Found_init : Sx := (.seq (.seta (.slot 0) 4 (.slot 1)) <|
  (.seq (.seta (.slot 0) 5 (.slot 2)) <|
  (.seq (.seta (.slot 0) 1 (.list true (.slot 3))) <|
  (.seq (.seta (.slot 0) 6 (.list false (.slot 4))) <|
  (.seta (.slot 0) 3 (.list true (.slot 5)))))))
theorem t_Found_init : trSs 60 c_Found_init (defBody s_Found_init) = some b_Found_init := by kernel_rfl
theorem sc_Found_init : FnScope n_Found_init ["self", "kind", "cost", "labels", "numbers", "ends"] (defScope s_Found_init) := ⟨by kernel_rfl, by kernel_rfl, by kernel_rfl, by decide +kernel, by kernel_rfl, by decide +kernel, by decide +kernel⟩
def b_better : Sx := (.seq (.iff (.tor (.tv (.cmp .Is (.slot 0) (.c .non))) (.tv (.cmp .Is (.slot 1) (.c .non)))) (.ret (.or_ (.slot 0) (.slot 1))) .skip) <|
  (.ret (.min2 (.slot 0) (.slot 1))))
theorem t_better : trSs 60 c_better (defBody s_better) = some b_better := by kernel_rfl
theorem sc_better : FnScope n_better ["one", "other"] (defScope s_better) := ⟨by kernel_rfl, by kernel_rfl, by kernel_rfl, by decide +kernel, by kernel_rfl, by decide +kernel, by decide +kernel⟩
def b_below_of : Sx := (.seq (.asg (.slot 2) (.lst false (.cons (.tup (.cons (.tup .nil) (.cons (.tup (.cons (.c (.int 0)) (.cons (.lst false .nil) .nil))) .nil))) .nil))) <|
  (.seq (.forr (.slot 3) (.iSeq (.slot 0)) (.seq (.asg (.slot 4) (.lst true .nil)) <|
  (.seq (.forr (.gTup (.cons (.slot 5) (.cons (.gTup (.cons (.slot 6) (.cons (.slot 7) .nil))) .nil))) (.iSeq (.slot 2)) (.forr (.gTup (.cons (.slot 8) (.cons (.slot 9) .nil))) (.iEnum (.ix (.slot 1) (.slot 3))) (.iff (.tv (.cmp .IsNot (.slot 9) (.c .non))) (.drop (.app (.slot 4) (.tup (.cons (.tup (.star (.slot 5) (.cons (.slot 8) .nil))) (.cons (.tup (.cons (.bin .Add false (.slot 6) (.ix (.slot 9) (.c (.int 0)))) (.cons (.bin .Add false (.slot 7) (.ix (.slot 9) (.c (.int 1)))) .nil))) .nil))))) .skip))) <|
  (.asg (.slot 2) (.fz (.slot 4)))))) <|
  (.ret (.slot 2))))
theorem t_below_of : trSs 60 c_below_of (defBody s_below_of) = some b_below_of := by kernel_rfl
theorem sc_below_of : FnScope n_below_of ["children", "done"] (defScope s_below_of) := ⟨by kernel_rfl, by kernel_rfl, by kernel_rfl, by decide +kernel, by kernel_rfl, by decide +kernel, by decide +kernel⟩
def b_charged : Sx := (.seq (.iff (.tnot (.tv (.slot 1))) (.ret (.slot 0)) .skip) <|
  (.ret (.ife (.tv (.cmp .Is (.slot 2) (.c .non))) (.c .non) (.bin .Add false (.slot 0) (.slot 2)))))
theorem t_charged : trSs 60 c_charged (defBody s_charged) = some b_charged := by kernel_rfl
theorem sc_charged : FnScope n_charged ["cost", "objects", "fine"] (defScope s_charged) := ⟨by kernel_rfl, by kernel_rfl, by kernel_rfl, by decide +kernel, by kernel_rfl, by decide +kernel, by decide +kernel⟩
def b_Reckoner_init : Sx := (.seq (.seta (.slot 0) 7 (.slot 1)) <|
  (.seq (.seta (.slot 0) 2 (.mdict (.lc false [4] (.tup (.cons (.slot 4) (.cons (.c (.bl true)) .nil))) (.slot 4) (.iSeq (.att (.slot 1) 2)) .noE))) <|
  (.seq (.seta (.slot 0) 8 (.slot 2)) <|
  (.seta (.slot 0) 9 (.slot 3)))))
theorem t_Reckoner_init : trSs 60 c_Reckoner_init (defBody s_Reckoner_init) = some b_Reckoner_init := by kernel_rfl
theorem sc_Reckoner_init : FnScope n_Reckoner_init ["self", "machine", "prices", "fine"] (defScope s_Reckoner_init) := ⟨by kernel_rfl, by kernel_rfl, by kernel_rfl, by decide +kernel, by kernel_rfl, by decide +kernel, by decide +kernel⟩
def b_Reckoner_row : Sx := (.seq (.asg (.slot 5) (.lst true .nil)) <|
  (.seq (.forr (.slot 6) (.iRan (.att (.att (.slot 0) 7) 1)) (.seq (.asg (.slot 7) (.c .non)) <|
  (.seq (.forr (.gTup (.cons (.slot 8) (.cons (.gTup (.cons (.slot 9) (.cons (.slot 10) .nil))) .nil))) (.iSeq (.slot 3)) (.seq (.asg (.slot 11) (.or_ (.cmp .NotIn (.tup (.cons (.slot 2) (.cons (.slot 8) (.cons (.slot 6) .nil)))) (.att (.slot 0) 2)) (.and_ (.slot 4) (.cmp .NotIn (.slot 6) (.att (.att (.slot 0) 7) 3))))) <|
  (.seq (.asg (.slot 12) (.call 8 (.cons (.bin .Add false (.slot 9) (.ix (.ix (.att (.slot 0) 8) (.slot 1)) (.slot 6))) (.cons (.slot 11) (.cons (.att (.slot 0) 9) .nil))))) <|
  (.iff (.tv (.cmp .IsNot (.slot 12) (.c .non))) (.asg (.slot 7) (.call 6 (.cons (.slot 7) (.cons (.tup (.cons (.slot 12) (.cons (.lst false (.star (.slot 10) (.cons (.slot 6) .nil))) .nil))) .nil)))) .skip)))) <|
  (.drop (.app (.slot 5) (.slot 7)))))) <|
  (.ret (.fz (.slot 5)))))
theorem t_Reckoner_row : trSs 60 c_Reckoner_row (defBody s_Reckoner_row) = some b_Reckoner_row := by kernel_rfl
theorem sc_Reckoner_row : FnScope n_Reckoner_row ["self", "at", "letter", "below", "root"] (defScope s_Reckoner_row) := ⟨by kernel_rfl, by kernel_rfl, by kernel_rfl, by decide +kernel, by kernel_rfl, by decide +kernel, by decide +kernel⟩
def b_cost_of : Sx := (.ret (.ife (.tv (.cmp .Is (.slot 0) (.c .non))) (.c .non) (.ix (.slot 0) (.c (.int 0)))))
theorem t_cost_of : trSs 60 c_cost_of (defBody s_cost_of) = some b_cost_of := by kernel_rfl
theorem sc_cost_of : FnScope n_cost_of ["pair"] (defScope s_cost_of) := ⟨by kernel_rfl, by kernel_rfl, by kernel_rfl, by decide +kernel, by kernel_rfl, by decide +kernel, by decide +kernel⟩
def b_best : Sx := (.seq (.asg (.slot 4) (.new 2 9 (.cons (.slot 0) (.cons (.slot 2) (.cons (.slot 3) .nil))))) <|
  (.seq (.asg (.slot 5) (.lst true .nil)) <|
  (.seq (.asg (.slot 6) (.call 0 (.cons (.slot 1) .nil))) <|
  (.seq (.forr (.gTup (.cons (.slot 7) (.cons (.gTup (.cons (.slot 8) (.cons (.slot 9) .nil))) .nil))) (.iEnum (.slot 6)) (.drop (.app (.slot 5) (.meth 2 10 (.slot 4) (.cons (.slot 7) (.cons (.slot 8) (.cons (.call 7 (.cons (.slot 9) (.cons (.slot 5) .nil))) (.cons (.c (.bl false)) .nil)))))))) <|
  (.seq (.asg (.slot 10) (.bin .Sub false (.len (.slot 6)) (.c (.int 1)))) <|
  (.seq (.asg (.slot 11) (.meth 2 10 (.slot 4) (.cons (.slot 10) (.cons (.ix (.ix (.slot 6) (.slot 10)) (.c (.int 0))) (.cons (.call 7 (.cons (.ix (.ix (.slot 6) (.slot 10)) (.c (.int 1))) (.cons (.slot 5) .nil))) (.cons (.c (.bl true)) .nil)))))) <|
  (.seq (.asg (.slot 12) (.lc false [16] (.lc true [14] (.call 11 (.cons (.slot 14) .nil)) (.slot 14) (.iSeq (.slot 16)) .noE) (.slot 16) (.iSeq (.fz (.slot 5))) .noE)) <|
  (.seq (.asg (.slot 13) (.c .non)) <|
  (.seq (.forr (.slot 14) (.iSeq (.slot 11)) (.asg (.slot 13) (.call 6 (.cons (.slot 13) (.cons (.slot 14) .nil))))) <|
  (.seq (.asg (.slot 15) (.lc false [14] (.call 11 (.cons (.slot 14) .nil)) (.slot 14) (.iSeq (.slot 11)) .noE)) <|
  (.seq (.iff (.tv (.cmp .Is (.slot 13) (.c .non))) (.ret (.new 1 5 (.cons (.c (.str "none")) (.cons (.c .non) (.cons (.lst false .nil) (.cons (.slot 12) (.cons (.slot 15) .nil))))))) .skip) <|
  (.ret (.new 1 5 (.cons (.c (.str "best")) (.cons (.ix (.slot 13) (.c (.int 0))) (.cons (.ix (.slot 13) (.c (.int 1))) (.cons (.slot 12) (.cons (.slot 15) .nil))))))))))))))))))
theorem t_best : trSs 60 c_best (defBody s_best) = some b_best := by kernel_rfl
theorem sc_best : FnScope n_best ["machine", "tree", "prices", "fine"] (defScope s_best) := ⟨by kernel_rfl, by kernel_rfl, by kernel_rfl, by decide +kernel, by kernel_rfl, by decide +kernel, by decide +kernel⟩
def b_fewest_objections : Sx := (.ret (.call 12 (.cons (.slot 0) (.cons (.slot 1) (.cons (.lc false [2] (.bin .Mult false (.lst false (.cons (.c (.int 0)) .nil)) (.att (.slot 0) 1)) (.slot 2) (.iSeq (.call 0 (.cons (.slot 1) .nil))) .noE) (.cons (.c (.int 1)) .nil))))))
theorem t_fewest_objections : trSs 60 c_fewest_objections (defBody s_fewest_objections) = some b_fewest_objections := by kernel_rfl
theorem sc_fewest_objections : FnScope n_fewest_objections ["machine", "tree"] (defScope s_fewest_objections) := ⟨by kernel_rfl, by kernel_rfl, by kernel_rfl, by decide +kernel, by kernel_rfl, by decide +kernel, by decide +kernel⟩
def b_after_change : Sx := (.seq (.asg (.slot 3) (.lc false [4] (.lc false [5] (.int (.cmp .NotEq (.slot 5) (.slot 4))) (.slot 5) (.iRan (.att (.slot 0) 1)) .noE) (.slot 4) (.iSeq (.slot 2)) .noE)) <|
  (.ret (.call 12 (.cons (.slot 0) (.cons (.slot 1) (.cons (.slot 3) (.cons (.c .non) .nil)))))))
theorem t_after_change : trSs 60 c_after_change (defBody s_after_change) = some b_after_change := by kernel_rfl
theorem sc_after_change : FnScope n_after_change ["machine", "tree", "old"] (defScope s_after_change) := ⟨by kernel_rfl, by kernel_rfl, by kernel_rfl, by decide +kernel, by kernel_rfl, by decide +kernel, by decide +kernel⟩
def b_Machine_init : Sx := (.seq (.iff (.tnot (.tv (.chain .Lt .LtE (.c (.int 0)) (.slot 1) (.c (.int 4))))) .rais .skip) <|
  (.seq (.iff (.tnot (.tv (.chain .Lt .LtE (.c (.int 0)) (.slot 2) (.c (.int 8))))) .rais .skip) <|
  (.seq (.forr (.gTup (.cons (.slot 5) (.cons (.slot 6) (.cons (.slot 7) .nil)))) (.iSeq (.slot 3)) (.seq (.asg (.slot 8) (.all (.lc false [9] (.chain .LtE .Lt (.c (.int 0)) (.slot 9) (.slot 2)) (.slot 9) (.iSeq (.lst false (.star (.slot 6) (.cons (.slot 7) .nil)))) .noE))) <|
  (.iff (.tor (.tnot (.tv (.chain .LtE .Lt (.c (.int 0)) (.slot 5) (.slot 1)))) (.tor (.tv (.cmp .Gt (.len (.slot 6)) (.c (.int 2)))) (.tnot (.tv (.slot 8))))) .rais .skip))) <|
  (.seq (.iff (.tnot (.tv (.all (.lc false [7] (.chain .LtE .Lt (.c (.int 0)) (.slot 7) (.slot 2)) (.slot 7) (.iSeq (.slot 4)) .noE)))) .rais .skip) <|
  (.seq (.seta (.slot 0) 0 (.slot 1)) <|
  (.seq (.seta (.slot 0) 1 (.slot 2)) <|
  (.seq (.seta (.slot 0) 2 (.tuple (.sset (.lc false [5, 6, 7] (.tup (.cons (.slot 5) (.cons (.tuple (.slot 6)) (.cons (.slot 7) .nil)))) (.gTup (.cons (.slot 5) (.cons (.slot 6) (.cons (.slot 7) .nil)))) (.iSeq (.slot 3)) .noE)))) <|
  (.seta (.slot 0) 3 (.tuple (.sset (.slot 4)))))))))))
theorem t_Machine_init : trSs 60 c_Machine_init (defBody s_Machine_init) = some b_Machine_init := by kernel_rfl
theorem sc_Machine_init : FnScope n_Machine_init ["self", "letters", "labels", "moves", "ends"] (defScope s_Machine_init) := ⟨by kernel_rfl, by kernel_rfl, by kernel_rfl, by decide +kernel, by kernel_rfl, by decide +kernel, by decide +kernel⟩
def b_Ring_init : Sx := (.seq (.seta (.slot 0) 7 (.slot 1)) <|
  (.seq (.seta (.slot 0) 2 (.mdict (.lc false [5] (.tup (.cons (.slot 5) (.cons (.c (.bl true)) .nil))) (.slot 5) (.iSeq (.att (.slot 1) 2)) .noE))) <|
  (.seq (.seta (.slot 0) 10 (.slot 2)) <|
  (.seq (.seta (.slot 0) 8 (.slot 3)) <|
  (.seta (.slot 0) 9 (.slot 4))))))
theorem t_Ring_init : trSs 60 c_Ring_init (defBody s_Ring_init) = some b_Ring_init := by kernel_rfl
theorem sc_Ring_init : FnScope n_Ring_init ["self", "machine", "ring", "prices", "fine"] (defScope s_Ring_init) := ⟨by kernel_rfl, by kernel_rfl, by kernel_rfl, by decide +kernel, by kernel_rfl, by decide +kernel, by decide +kernel⟩
def b_Ring_charge : Sx := (.ret (.call 8 (.cons (.slot 1) (.cons (.cmp .NotIn (.tup (.cons (.ix (.att (.slot 0) 10) (.slot 2)) (.cons (.tup (.cons (.slot 3) .nil)) (.cons (.slot 4) .nil)))) (.att (.slot 0) 2)) (.cons (.att (.slot 0) 9) .nil)))))
theorem t_Ring_charge : trSs 60 c_Ring_charge (defBody s_Ring_charge) = some b_Ring_charge := by kernel_rfl
theorem sc_Ring_charge : FnScope n_Ring_charge ["self", "cost", "at", "before", "label"] (defScope s_Ring_charge) := ⟨by kernel_rfl, by kernel_rfl, by kernel_rfl, by decide +kernel, by kernel_rfl, by decide +kernel, by decide +kernel⟩
def b_Ring_rows : Sx := (.seq (.asg (.slot 2) (.lc false [5] (.ife (.tv (.cmp .Eq (.slot 5) (.slot 1))) (.tup (.cons (.c (.int 0)) (.cons (.lst false (.cons (.slot 1) .nil)) .nil))) (.c .non)) (.slot 5) (.iRan (.att (.att (.slot 0) 7) 1)) .noE)) <|
  (.seq (.asg (.slot 3) (.lst true (.cons (.slot 2) .nil))) <|
  (.seq (.forr (.slot 4) (.iRan2 (.c (.int 1)) (.len (.att (.slot 0) 10))) (.drop (.app (.slot 3) (.meth 3 19 (.slot 0) (.cons (.slot 4) (.cons (.ix (.slot 3) (.neg (.c (.int 1)))) .nil)))))) <|
  (.ret (.fz (.slot 3))))))
theorem t_Ring_rows : trSs 60 c_Ring_rows (defBody s_Ring_rows) = some b_Ring_rows := by kernel_rfl
theorem sc_Ring_rows : FnScope n_Ring_rows ["self", "first"] (defScope s_Ring_rows) := ⟨by kernel_rfl, by kernel_rfl, by kernel_rfl, by decide +kernel, by kernel_rfl, by decide +kernel, by decide +kernel⟩
def b_Ring_row : Sx := (.seq (.asg (.slot 3) (.lst true .nil)) <|
  (.seq (.forr (.slot 4) (.iRan (.att (.att (.slot 0) 7) 1)) (.seq (.asg (.slot 5) (.c .non)) <|
  (.seq (.forr (.gTup (.cons (.slot 6) (.cons (.slot 7) .nil))) (.iEnum (.slot 2)) (.iff (.tv (.cmp .IsNot (.slot 7) (.c .non))) (.seq (.asg (.slot 8) (.meth 3 17 (.slot 0) (.cons (.bin .Add false (.ix (.slot 7) (.c (.int 0))) (.ix (.ix (.att (.slot 0) 8) (.slot 1)) (.slot 4))) (.cons (.slot 1) (.cons (.slot 6) (.cons (.slot 4) .nil)))))) <|
  (.iff (.tv (.cmp .IsNot (.slot 8) (.c .non))) (.asg (.slot 5) (.call 6 (.cons (.slot 5) (.cons (.tup (.cons (.slot 8) (.cons (.lst false (.star (.ix (.slot 7) (.c (.int 1))) (.cons (.slot 4) .nil))) .nil))) .nil)))) .skip)) .skip)) <|
  (.drop (.app (.slot 3) (.slot 5)))))) <|
  (.ret (.fz (.slot 3)))))
theorem t_Ring_row : trSs 60 c_Ring_row (defBody s_Ring_row) = some b_Ring_row := by kernel_rfl
theorem sc_Ring_row : FnScope n_Ring_row ["self", "at", "before"] (defScope s_Ring_row) := ⟨by kernel_rfl, by kernel_rfl, by kernel_rfl, by decide +kernel, by kernel_rfl, by decide +kernel, by decide +kernel⟩
def b_Ring_closed : Sx := (.seq (.asg (.slot 3) (.c .non)) <|
  (.seq (.forr (.gTup (.cons (.slot 4) (.cons (.slot 5) .nil))) (.iEnum (.slot 2)) (.iff (.tv (.cmp .IsNot (.slot 5) (.c .non))) (.seq (.asg (.slot 6) (.meth 3 17 (.slot 0) (.cons (.bin .Add false (.ix (.slot 5) (.c (.int 0))) (.ix (.ix (.att (.slot 0) 8) (.c (.int 0))) (.slot 1))) (.cons (.c (.int 0)) (.cons (.slot 4) (.cons (.slot 1) .nil)))))) <|
  (.iff (.tv (.cmp .IsNot (.slot 6) (.c .non))) (.asg (.slot 3) (.call 6 (.cons (.slot 3) (.cons (.tup (.cons (.slot 6) (.cons (.ix (.slot 5) (.c (.int 1))) .nil))) .nil)))) .skip)) .skip)) <|
  (.ret (.slot 3))))
theorem t_Ring_closed : trSs 60 c_Ring_closed (defBody s_Ring_closed) = some b_Ring_closed := by kernel_rfl
theorem sc_Ring_closed : FnScope n_Ring_closed ["self", "first", "last"] (defScope s_Ring_closed) := ⟨by kernel_rfl, by kernel_rfl, by kernel_rfl, by decide +kernel, by kernel_rfl, by decide +kernel, by decide +kernel⟩
def b_best_ring : Sx := (.seq (.asg (.slot 4) (.new 3 16 (.cons (.slot 0) (.cons (.slot 1) (.cons (.slot 2) (.cons (.slot 3) .nil)))))) <|
  (.seq (.asg (.slot 5) (.lst true .nil)) <|
  (.seq (.asg (.slot 6) (.c .non)) <|
  (.seq (.forr (.slot 7) (.iRan (.att (.slot 0) 1)) (.seq (.asg (.slot 8) (.meth 3 18 (.slot 4) (.cons (.slot 7) .nil))) <|
  (.seq (.drop (.app (.slot 5) (.lc false [9] (.lc true [10] (.call 11 (.cons (.slot 10) .nil)) (.slot 10) (.iSeq (.slot 9)) .noE) (.slot 9) (.iSeq (.slot 8)) .noE))) <|
  (.asg (.slot 6) (.call 6 (.cons (.slot 6) (.cons (.meth 3 20 (.slot 4) (.cons (.slot 7) (.cons (.ix (.slot 8) (.neg (.c (.int 1)))) .nil))) .nil))))))) <|
  (.seq (.iff (.tv (.cmp .Is (.slot 6) (.c .non))) (.ret (.new 1 5 (.cons (.c (.str "none")) (.cons (.c .non) (.cons (.lst false .nil) (.cons (.slot 5) (.cons (.lst false .nil) .nil))))))) .skip) <|
  (.ret (.new 1 5 (.cons (.c (.str "best")) (.cons (.ix (.slot 6) (.c (.int 0))) (.cons (.ix (.slot 6) (.c (.int 1))) (.cons (.slot 5) (.cons (.lst false .nil) .nil))))))))))))
theorem t_best_ring : trSs 60 c_best_ring (defBody s_best_ring) = some b_best_ring := by kernel_rfl
theorem sc_best_ring : FnScope n_best_ring ["machine", "ring", "prices", "fine"] (defScope s_best_ring) := ⟨by kernel_rfl, by kernel_rfl, by kernel_rfl, by decide +kernel, by kernel_rfl, by decide +kernel, by decide +kernel⟩
def b_law_pool : Sx := (.ret (.lst true (.cons (.list false (.slot 0)) (.cons (.c (.int 0)) (.cons (.c (.int 0)) (.cons (.c (.int 1)) (.cons (.c (.int 0)) (.cons (.slot 1) .nil))))))))
theorem t_law_pool : trSs 60 c_law_pool (defBody s_law_pool) = some b_law_pool := by kernel_rfl
theorem sc_law_pool : FnScope n_law_pool ["_law_script", "_law_budget"] (defScope s_law_pool) := ⟨by kernel_rfl, by kernel_rfl, by kernel_rfl, by decide +kernel, by kernel_rfl, by decide +kernel, by decide +kernel⟩
def b_law_draw : Sx := (.seq (.iff (.tand (.tv (.cmp .LtE (.ix (.slot 0) (.c (.int 2))) (.c (.int 0)))) (.tand (.tv (.cmp .LtE (.ix (.slot 0) (.c (.int 4))) (.c (.int 0)))) (.tv (.cmp .Lt (.ix (.slot 0) (.c (.int 1))) (.len (.ix (.slot 0) (.c (.int 0)))))))) (.seq (.asg (.slot 2) (.ix (.ix (.slot 0) (.c (.int 0))) (.ix (.slot 0) (.c (.int 1))))) <|
  (.seq (.seti (.slot 0) (.c (.int 1)) (.bin .Add false (.ix (.slot 0) (.c (.int 1))) (.c (.int 1)))) <|
  (.seq (.seti (.slot 0) (.c (.int 3)) (.bin .Mod false (.int (.bin .Add false (.bin .Mult false (.ix (.slot 0) (.c (.int 3))) (.c (.int 31))) (.slot 2))) (.c (.int 2147483647)))) <|
  (.seq (.seti (.slot 0) (.c (.int 4)) (.c (.int 7))) <|
  (.iff (.tv (.cmp .GtE (.slot 2) (.bin .Pow false (.c (.int 10)) (.c (.int 18))))) (.seti (.slot 0) (.c (.int 2)) (.slot 2)) .skip))))) .skip) <|
  (.seq (.iff (.tv (.cmp .Gt (.ix (.slot 0) (.c (.int 2))) (.c (.int 0)))) (.seq (.asg (.slot 3) (.bin .Mod false (.int (.ix (.slot 0) (.c (.int 2)))) (.slot 1))) <|
  (.seq (.seti (.slot 0) (.c (.int 2)) (.bin .FloorDiv false (.ix (.slot 0) (.c (.int 2))) (.slot 1))) <|
  (.seq (.seti (.slot 0) (.c (.int 4)) (.c (.int 0))) <|
  (.ret (.slot 3))))) .skip) <|
  (.seq (.seti (.slot 0) (.c (.int 4)) (.bin .Sub false (.ix (.slot 0) (.c (.int 4))) (.c (.int 1)))) <|
  (.seq (.seti (.slot 0) (.c (.int 3)) (.bin .Mod false (.int (.bin .Add false (.bin .Mult false (.ix (.slot 0) (.c (.int 3))) (.c (.int 48271))) (.c (.int 12345)))) (.c (.int 2147483647)))) <|
  (.ret (.bin .Mod false (.bin .Mod false (.int (.bin .Add false (.bin .Mult false (.ix (.slot 0) (.c (.int 3))) (.c (.int 69621))) (.c (.int 7919)))) (.c (.int 2147483647))) (.slot 1)))))))
theorem t_law_draw : trSs 60 c_law_draw (defBody s_law_draw) = some b_law_draw := by kernel_rfl
theorem sc_law_draw : FnScope n_law_draw ["_law_pool_here", "_law_size"] (defScope s_law_draw) := ⟨by kernel_rfl, by kernel_rfl, by kernel_rfl, by decide +kernel, by kernel_rfl, by decide +kernel, by decide +kernel⟩
def b_law_same : Sx := (.seq (.iff (.tor (.tv (.isi (.slot 1) 0)) (.tv (.isi (.slot 1) 1))) (.seq (.iff (.tor (.tv (.cmp .NotEq (.isi (.slot 1) 0) (.isi (.slot 0) 0))) (.tv (.cmp .NotEq (.isi (.slot 1) 1) (.isi (.slot 0) 1)))) (.ret (.c (.bl false))) .skip) <|
  (.seq (.iff (.tv (.cmp .NotEq (.len (.slot 0)) (.len (.slot 1)))) (.ret (.c (.bl false))) .skip) <|
  (.seq (.forr (.slot 2) (.iRan (.len (.slot 1))) (.iff (.tnot (.tv (.call 24 (.cons (.ix (.slot 0) (.slot 2)) (.cons (.ix (.slot 1) (.slot 2)) .nil))))) (.ret (.c (.bl false))) .skip)) <|
  (.ret (.c (.bl true)))))) .skip) <|
  (.seq (.iff (.tor (.tv (.cmp .Is (.slot 1) (.c .non))) (.tv (.isi (.slot 1) 2))) (.ret (.and_ (.cmp .Eq (.cmp .Is (.slot 0) (.c .non)) (.cmp .Is (.slot 1) (.c .non))) (.and_ (.or_ (.cmp .Is (.slot 1) (.c .non)) (.isi (.slot 0) 2)) (.cmp .Eq (.slot 0) (.slot 1))))) .skip) <|
  (.seq (.iff (.tv (.isi (.slot 1) 3)) (.ret (.and_ (.isi (.slot 0) 3) (.and_ (.not (.isi (.slot 0) 2)) (.cmp .Eq (.slot 0) (.slot 1))))) .skip) <|
  (.ret (.and_ (.isi (.slot 0) 4) (.cmp .Eq (.slot 0) (.slot 1)))))))
theorem t_law_same : trSs 60 c_law_same (defBody s_law_same) = some b_law_same := by kernel_rfl
theorem sc_law_same : FnScope n_law_same ["_law_actual", "_law_due"] (defScope s_law_same) := ⟨by kernel_rfl, by kernel_rfl, by kernel_rfl, by decide +kernel, by kernel_rfl, by decide +kernel, by decide +kernel⟩
def b_law_machine : Sx := (.seq (.asg (.slot 4) (.lst true .nil)) <|
  (.seq (.forr (.slot 5) (.iRan (.call 23 (.cons (.slot 0) (.cons (.bin .Add false (.slot 3) (.c (.int 1))) .nil)))) (.seq (.asg (.slot 6) (.ix (.tup (.cons (.c (.int 0)) (.cons (.c (.int 1)) (.cons (.c (.int 1)) (.cons (.c (.int 2)) .nil))))) (.call 23 (.cons (.slot 0) (.cons (.c (.int 4)) .nil))))) <|
  (.seq (.asg (.slot 7) (.tuple (.lc false [9] (.call 23 (.cons (.slot 0) (.cons (.slot 2) .nil))) (.slot 9) (.iRan (.slot 6)) .noE))) <|
  (.drop (.app (.slot 4) (.tup (.cons (.call 23 (.cons (.slot 0) (.cons (.slot 1) .nil))) (.cons (.slot 7) (.cons (.call 23 (.cons (.slot 0) (.cons (.slot 2) .nil))) .nil))))))))) <|
  (.seq (.asg (.slot 8) (.lc false [10] (.slot 10) (.slot 10) (.iRan (.slot 2)) (.tv (.cmp .Eq (.call 23 (.cons (.slot 0) (.cons (.c (.int 2)) .nil))) (.c (.int 0)))))) <|
  (.ret (.tup (.cons (.slot 1) (.cons (.slot 2) (.cons (.fz (.slot 4)) (.cons (.slot 8) .nil)))))))))
theorem t_law_machine : trSs 60 c_law_machine (defBody s_law_machine) = some b_law_machine := by kernel_rfl
theorem sc_law_machine : FnScope n_law_machine ["_law_pool_here", "_law_letters", "_law_labels", "_law_many"] (defScope s_law_machine) := ⟨by kernel_rfl, by kernel_rfl, by kernel_rfl, by decide +kernel, by kernel_rfl, by decide +kernel, by decide +kernel⟩
def b_law_tree : Sx := (.seq (.asg (.slot 3) (.call 23 (.cons (.slot 0) (.cons (.slot 1) .nil)))) <|
  (.seq (.asg (.slot 4) (.ix (.tup (.cons (.c (.int 0)) (.cons (.c (.int 1)) (.cons (.c (.int 1)) (.cons (.c (.int 2)) (.cons (.c (.int 2)) .nil)))))) (.call 23 (.cons (.slot 0) (.cons (.c (.int 5)) .nil))))) <|
  (.seq (.asg (.slot 5) (.lst true .nil)) <|
  (.seq (.forr (.slot 6) (.iRan (.slot 4)) (.iff (.tv (.cmp .Gt (.ix (.slot 2) (.c (.int 0))) (.c (.int 0)))) (.seq (.seti (.slot 2) (.c (.int 0)) (.bin .Sub false (.ix (.slot 2) (.c (.int 0))) (.c (.int 1)))) <|
  (.drop (.app (.slot 5) (.call 26 (.cons (.slot 0) (.cons (.slot 1) (.cons (.slot 2) .nil))))))) .skip)) <|
  (.ret (.tup (.cons (.slot 3) (.cons (.tuple (.fz (.slot 5))) .nil))))))))
theorem t_law_tree : trSs 60 c_law_tree (defBody s_law_tree) = some b_law_tree := by kernel_rfl
theorem sc_law_tree : FnScope n_law_tree ["_law_pool_here", "_law_letters", "_law_left"] (defScope s_law_tree) := ⟨by kernel_rfl, by kernel_rfl, by kernel_rfl, by decide +kernel, by kernel_rfl, by decide +kernel, by decide +kernel⟩
def b_law_nodes : Sx := (.seq (.asg (.slot 1) (.lst false .nil)) <|
  (.seq (.asg (.slot 2) (.lst true .nil)) <|
  (.seq (.forr (.slot 3) (.iSeq (.ix (.slot 0) (.c (.int 1)))) (.seq (.asg (.slot 4) (.call 27 (.cons (.slot 3) .nil))) <|
  (.seq (.asg (.slot 5) (.len (.slot 1))) <|
  (.seq (.asg (.slot 1) (.bin .Add false (.slot 1) (.lc false [6, 7] (.tup (.cons (.slot 6) (.cons (.tuple (.lc false [8] (.bin .Add false (.slot 8) (.slot 5)) (.slot 8) (.iSeq (.slot 7)) .noE)) .nil))) (.gTup (.cons (.slot 6) (.cons (.slot 7) .nil))) (.iSeq (.slot 4)) .noE))) <|
  (.drop (.app (.slot 2) (.bin .Sub false (.len (.slot 1)) (.c (.int 1))))))))) <|
  (.ret (.bin .Add false (.slot 1) (.lst false (.cons (.tup (.cons (.ix (.slot 0) (.c (.int 0))) (.cons (.tuple (.fz (.slot 2))) .nil))) .nil)))))))
theorem t_law_nodes : trSs 60 c_law_nodes (defBody s_law_nodes) = some b_law_nodes := by kernel_rfl
theorem sc_law_nodes : FnScope n_law_nodes ["_law_tree_here"] (defScope s_law_nodes) := ⟨by kernel_rfl, by kernel_rfl, by kernel_rfl, by decide +kernel, by kernel_rfl, by decide +kernel, by decide +kernel⟩
def b_law_row_tree : Sx := (.seq (.asg (.slot 1) (.tup (.cons (.ix (.slot 0) (.c (.int 0))) (.cons (.tup .nil) .nil)))) <|
  (.seq (.forr (.slot 2) (.iSeq (.cut false (.slot 0) (.tv (.c (.int 1))) .noE)) (.asg (.slot 1) (.tup (.cons (.slot 2) (.cons (.tup (.cons (.slot 1) .nil)) .nil))))) <|
  (.ret (.slot 1))))
theorem t_law_row_tree : trSs 60 c_law_row_tree (defBody s_law_row_tree) = some b_law_row_tree := by kernel_rfl
theorem sc_law_row_tree : FnScope n_law_row_tree ["_law_row"] (defScope s_law_row_tree) := ⟨by kernel_rfl, by kernel_rfl, by kernel_rfl, by decide +kernel, by kernel_rfl, by decide +kernel, by decide +kernel⟩
def b_law_shape : Sx := (.seq (.iff (.tv (.cmp .Eq (.call 23 (.cons (.slot 0) (.cons (.c (.int 3)) .nil))) (.c (.int 0)))) (.ret (.call 28 (.cons (.lc false [3] (.call 23 (.cons (.slot 0) (.cons (.slot 1) .nil))) (.slot 3) (.iRan (.bin .Add false (.c (.int 1)) (.call 23 (.cons (.slot 0) (.cons (.slot 2) .nil))))) .noE) .nil))) .skip) <|
  (.ret (.call 26 (.cons (.slot 0) (.cons (.slot 1) (.cons (.lst true (.cons (.call 23 (.cons (.slot 0) (.cons (.slot 2) .nil))) .nil)) .nil))))))
theorem t_law_shape : trSs 60 c_law_shape (defBody s_law_shape) = some b_law_shape := by kernel_rfl
theorem sc_law_shape : FnScope n_law_shape ["_law_pool_here", "_law_letters", "_law_most"] (defScope s_law_shape) := ⟨by kernel_rfl, by kernel_rfl, by kernel_rfl, by decide +kernel, by kernel_rfl, by decide +kernel, by decide +kernel⟩
def b_law_objects : Sx := (.seq (.asg (.slot 3) (.lst true .nil)) <|
  (.seq (.forr (.slot 4) (.iRan (.len (.slot 1))) (.seq (.asg (.gTup (.cons (.slot 5) (.cons (.slot 6) .nil))) (.ix (.slot 1) (.slot 4))) <|
  (.seq (.asg (.slot 7) (.cmp .In (.tup (.cons (.slot 5) (.cons (.tuple (.lc false [8] (.ix (.slot 2) (.slot 8)) (.slot 8) (.iSeq (.slot 6)) .noE)) (.cons (.ix (.slot 2) (.slot 4)) .nil)))) (.ix (.slot 0) (.c (.int 2))))) <|
  (.seq (.iff (.tand (.tv (.cmp .Eq (.slot 4) (.bin .Sub false (.len (.slot 1)) (.c (.int 1))))) (.tv (.cmp .NotIn (.ix (.slot 2) (.slot 4)) (.ix (.slot 0) (.c (.int 3)))))) (.asg (.slot 7) (.c (.bl false))) .skip) <|
  (.iff (.tnot (.tv (.slot 7))) (.drop (.app (.slot 3) (.slot 4))) .skip))))) <|
  (.ret (.fz (.slot 3)))))
theorem t_law_objects : trSs 60 c_law_objects (defBody s_law_objects) = some b_law_objects := by kernel_rfl
theorem sc_law_objects : FnScope n_law_objects ["_law_machine_here", "_law_nodes_here", "_law_labels"] (defScope s_law_objects) := ⟨by kernel_rfl, by kernel_rfl, by kernel_rfl, by decide +kernel, by kernel_rfl, by decide +kernel, by decide +kernel⟩
def b_law_lists : Sx := (.seq (.asg (.slot 2) (.lst false (.cons (.lst false .nil) .nil))) <|
  (.seq (.forr (.slot 3) (.iRan (.slot 0)) (.seq (.asg (.slot 4) (.lst false .nil)) <|
  (.seq (.forr (.slot 5) (.iSeq (.slot 2)) (.asg (.slot 4) (.bin .Add false (.slot 4) (.lc false [6] (.bin .Add false (.slot 5) (.lst false (.cons (.slot 6) .nil))) (.slot 6) (.iRan (.slot 1)) .noE)))) <|
  (.asg (.slot 2) (.slot 4))))) <|
  (.ret (.slot 2))))
theorem t_law_lists : trSs 60 c_law_lists (defBody s_law_lists) = some b_law_lists := by kernel_rfl
theorem sc_law_lists : FnScope n_law_lists ["_law_count", "_law_labels"] (defScope s_law_lists) := ⟨by kernel_rfl, by kernel_rfl, by kernel_rfl, by decide +kernel, by kernel_rfl, by decide +kernel, by decide +kernel⟩
def b_law_made : Sx := (.ret (.new 0 15 (.cons (.ix (.slot 0) (.c (.int 0))) (.cons (.ix (.slot 0) (.c (.int 1))) (.cons (.ix (.slot 0) (.c (.int 2))) (.cons (.ix (.slot 0) (.c (.int 3))) .nil))))))
theorem t_law_made : trSs 60 c_law_made (defBody s_law_made) = some b_law_made := by kernel_rfl
theorem sc_law_made : FnScope n_law_made ["_law_machine_here"] (defScope s_law_made) := ⟨by kernel_rfl, by kernel_rfl, by kernel_rfl, by decide +kernel, by kernel_rfl, by decide +kernel, by decide +kernel⟩
def b_law_prices : Sx := (.seq (.asg (.slot 3) (.ix (.tup (.cons (.c (.int 2)) (.cons (.c (.int 5)) (.cons (.c (.int 1000)) .nil)))) (.call 23 (.cons (.slot 0) (.cons (.c (.int 3)) .nil))))) <|
  (.ret (.lc false [4] (.lc true [5] (.call 23 (.cons (.slot 0) (.cons (.slot 3) .nil))) (.slot 5) (.iRan (.slot 2)) .noE) (.slot 4) (.iRan (.slot 1)) .noE)))
theorem t_law_prices : trSs 60 c_law_prices (defBody s_law_prices) = some b_law_prices := by kernel_rfl
theorem sc_law_prices : FnScope n_law_prices ["_law_pool_here", "_law_count", "_law_labels"] (defScope s_law_prices) := ⟨by kernel_rfl, by kernel_rfl, by kernel_rfl, by decide +kernel, by kernel_rfl, by decide +kernel, by decide +kernel⟩
def b_law_cost : Sx := (.seq (.iff (.tand (.tv (.cmp .Gt (.slot 3) (.c (.int 0)))) (.tv (.cmp .Is (.slot 1) (.c .non)))) (.ret (.c .non)) .skip) <|
  (.seq (.asg (.slot 4) (.sum (.lc false [5] (.ix (.ix (.slot 0) (.slot 5)) (.ix (.slot 2) (.slot 5))) (.slot 5) (.iRan (.len (.slot 2))) .noE))) <|
  (.seq (.iff (.tv (.cmp .Gt (.slot 3) (.c (.int 0)))) (.asg (.slot 4) (.bin .Add false (.slot 4) (.bin .Mult false (.slot 3) (.slot 1)))) .skip) <|
  (.ret (.slot 4)))))
theorem t_law_cost : trSs 60 c_law_cost (defBody s_law_cost) = some b_law_cost := by kernel_rfl
theorem sc_law_cost : FnScope n_law_cost ["_law_prices_here", "_law_fine", "_law_labels", "_law_count"] (defScope s_law_cost) := ⟨by kernel_rfl, by kernel_rfl, by kernel_rfl, by decide +kernel, by kernel_rfl, by decide +kernel, by decide +kernel⟩
def b_law_ring_objects : Sx := (.ret (.lc false [3] (.slot 3) (.slot 3) (.iRan (.len (.slot 1))) (.tv (.cmp .NotIn (.tup (.cons (.ix (.slot 1) (.slot 3)) (.cons (.tup (.cons (.ix (.slot 2) (.bin .Sub false (.slot 3) (.c (.int 1)))) .nil)) (.cons (.ix (.slot 2) (.slot 3)) .nil)))) (.ix (.slot 0) (.c (.int 2)))))))
theorem t_law_ring_objects : trSs 60 c_law_ring_objects (defBody s_law_ring_objects) = some b_law_ring_objects := by kernel_rfl
theorem sc_law_ring_objects : FnScope n_law_ring_objects ["_law_machine_here", "_law_ring", "_law_labels"] (defScope s_law_ring_objects) := ⟨by kernel_rfl, by kernel_rfl, by kernel_rfl, by decide +kernel, by kernel_rfl, by decide +kernel, by decide +kernel⟩
def b_law_best : Sx := (.seq (.asg (.slot 2) (.c .non)) <|
  (.seq (.forr (.slot 3) (.iRan (.len (.slot 0))) (.iff (.tand (.tv (.cmp .IsNot (.ix (.slot 1) (.slot 3)) (.c .non))) (.tor (.tv (.cmp .Is (.slot 2) (.c .non))) (.tv (.cmp .Lt (.ix (.slot 1) (.slot 3)) (.ix (.slot 2) (.c (.int 0))))))) (.asg (.slot 2) (.tup (.cons (.ix (.slot 1) (.slot 3)) (.cons (.ix (.slot 0) (.slot 3)) .nil)))) .skip)) <|
  (.seq (.iff (.tv (.cmp .Is (.slot 2) (.c .non))) (.ret (.lst false (.cons (.c .non) (.cons (.lst false .nil) .nil)))) .skip) <|
  (.ret (.list false (.slot 2))))))
theorem t_law_best : trSs 60 c_law_best (defBody s_law_best) = some b_law_best := by kernel_rfl
theorem sc_law_best : FnScope n_law_best ["_law_lists_here", "_law_costs"] (defScope s_law_best) := ⟨by kernel_rfl, by kernel_rfl, by kernel_rfl, by decide +kernel, by kernel_rfl, by decide +kernel, by decide +kernel⟩
def b_law_least : Sx := (.seq (.asg (.slot 1) (.lc false [2] (.slot 2) (.slot 2) (.iSeq (.slot 0)) (.tv (.cmp .IsNot (.slot 2) (.c .non))))) <|
  (.seq (.iff (.tv (.cmp .Eq (.len (.slot 1)) (.c (.int 0)))) (.ret (.c .non)) .skip) <|
  (.ret (.min1 (.slot 1)))))
theorem t_law_least : trSs 60 c_law_least (defBody s_law_least) = some b_law_least := by kernel_rfl
theorem sc_law_least : FnScope n_law_least ["_law_rows"] (defScope s_law_least) := ⟨by kernel_rfl, by kernel_rfl, by kernel_rfl, by decide +kernel, by kernel_rfl, by decide +kernel, by decide +kernel⟩
def b_law_root_row : Sx := (.seq (.asg (.slot 6) (.lst true .nil)) <|
  (.seq (.forr (.slot 7) (.iRan (.ix (.slot 0) (.c (.int 1)))) (.seq (.asg (.slot 8) (.lst true .nil)) <|
  (.seq (.forr (.slot 9) (.iSeq (.call 31 (.cons (.len (.slot 2)) (.cons (.ix (.slot 0) (.c (.int 1))) .nil)))) (.seq (.asg (.slot 10) (.lc false [13] (.ix (.ix (.slot 2) (.slot 13)) (.ix (.slot 9) (.slot 13))) (.slot 13) (.iRan (.len (.slot 2))) .noE)) <|
  (.iff (.tv (.cmp .NotIn (.c .non) (.slot 10))) (.seq (.asg (.slot 11) (.bin .Add false (.sum (.slot 10)) (.ix (.slot 3) (.slot 7)))) <|
  (.seq (.asg (.slot 12) (.and_ (.cmp .In (.tup (.cons (.slot 1) (.cons (.tuple (.slot 9)) (.cons (.slot 7) .nil)))) (.ix (.slot 0) (.c (.int 2)))) (.or_ (.not (.slot 5)) (.cmp .In (.slot 7) (.ix (.slot 0) (.c (.int 3))))))) <|
  (.iff (.tv (.slot 12)) (.drop (.app (.slot 8) (.slot 11))) (.iff (.tv (.cmp .IsNot (.slot 4) (.c .non))) (.drop (.app (.slot 8) (.bin .Add false (.slot 11) (.slot 4)))) .skip)))) .skip))) <|
  (.drop (.app (.slot 6) (.call 37 (.cons (.fz (.slot 8)) .nil))))))) <|
  (.ret (.fz (.slot 6)))))
theorem t_law_root_row : trSs 60 c_law_root_row (defBody s_law_root_row) = some b_law_root_row := by kernel_rfl
theorem sc_law_root_row : FnScope n_law_root_row ["_law_machine_here", "_law_letter", "_law_below", "_law_prices_here", "_law_fine", "_law_root"] (defScope s_law_root_row) := ⟨by kernel_rfl, by kernel_rfl, by kernel_rfl, by decide +kernel, by kernel_rfl, by decide +kernel, by decide +kernel⟩
def b_law_numbers : Sx := (.seq (.asg (.slot 4) (.lst true .nil)) <|
  (.seq (.forr (.slot 5) (.iRan (.len (.slot 1))) (.seq (.asg (.gTup (.cons (.slot 6) (.cons (.slot 7) .nil))) (.ix (.slot 1) (.slot 5))) <|
  (.drop (.app (.slot 4) (.call 38 (.cons (.slot 0) (.cons (.slot 6) (.cons (.lc false [9] (.ix (.slot 4) (.slot 9)) (.slot 9) (.iSeq (.slot 7)) .noE) (.cons (.ix (.slot 2) (.slot 5)) (.cons (.slot 3) (.cons (.c (.bl false)) .nil))))))))))) <|
  (.seq (.asg (.gTup (.cons (.slot 6) (.cons (.slot 7) .nil))) (.ix (.slot 1) (.neg (.c (.int 1))))) <|
  (.seq (.asg (.slot 8) (.call 38 (.cons (.slot 0) (.cons (.slot 6) (.cons (.lc false [9] (.ix (.slot 4) (.slot 9)) (.slot 9) (.iSeq (.slot 7)) .noE) (.cons (.ix (.slot 2) (.neg (.c (.int 1)))) (.cons (.slot 3) (.cons (.c (.bl true)) .nil)))))))) <|
  (.ret (.tup (.cons (.fz (.slot 4)) (.cons (.slot 8) .nil))))))))
theorem t_law_numbers : trSs 60 c_law_numbers (defBody s_law_numbers) = some b_law_numbers := by kernel_rfl
theorem sc_law_numbers : FnScope n_law_numbers ["_law_machine_here", "_law_nodes_here", "_law_prices_here", "_law_fine"] (defScope s_law_numbers) := ⟨by kernel_rfl, by kernel_rfl, by kernel_rfl, by decide +kernel, by kernel_rfl, by decide +kernel, by decide +kernel⟩
def b_law_step : Sx := (.seq (.asg (.slot 5) (.lst true .nil)) <|
  (.seq (.forr (.slot 6) (.iRan (.ix (.slot 0) (.c (.int 1)))) (.seq (.asg (.slot 7) (.lst true .nil)) <|
  (.seq (.forr (.slot 8) (.iRan (.ix (.slot 0) (.c (.int 1)))) (.iff (.tv (.cmp .IsNot (.ix (.slot 2) (.slot 8)) (.c .non))) (.iff (.tv (.cmp .In (.tup (.cons (.slot 1) (.cons (.tup (.cons (.slot 8) .nil)) (.cons (.slot 6) .nil)))) (.ix (.slot 0) (.c (.int 2))))) (.drop (.app (.slot 7) (.bin .Add false (.ix (.slot 2) (.slot 8)) (.ix (.slot 3) (.slot 6))))) (.iff (.tv (.cmp .IsNot (.slot 4) (.c .non))) (.drop (.app (.slot 7) (.bin .Add false (.bin .Add false (.ix (.slot 2) (.slot 8)) (.ix (.slot 3) (.slot 6))) (.slot 4)))) .skip)) .skip)) <|
  (.drop (.app (.slot 5) (.call 37 (.cons (.fz (.slot 7)) .nil))))))) <|
  (.ret (.fz (.slot 5)))))
theorem t_law_step : trSs 60 c_law_step (defBody s_law_step) = some b_law_step := by kernel_rfl
theorem sc_law_step : FnScope n_law_step ["_law_machine_here", "_law_letter", "_law_before", "_law_prices_here", "_law_fine"] (defScope s_law_step) := ⟨by kernel_rfl, by kernel_rfl, by kernel_rfl, by decide +kernel, by kernel_rfl, by decide +kernel, by decide +kernel⟩
def b_law_ring_numbers : Sx := (.seq (.asg (.slot 4) (.lst true .nil)) <|
  (.seq (.asg (.slot 5) (.lst true .nil)) <|
  (.seq (.forr (.slot 6) (.iRan (.ix (.slot 0) (.c (.int 1)))) (.seq (.asg (.slot 7) (.lst true (.cons (.bin .Mult true (.lst false (.cons (.c .non) .nil)) (.ix (.slot 0) (.c (.int 1)))) .nil))) <|
  (.seq (.seti (.ix (.slot 7) (.c (.int 0))) (.slot 6) (.c (.int 0))) <|
  (.seq (.forr (.slot 8) (.iRan2 (.c (.int 1)) (.len (.slot 1))) (.drop (.app (.slot 7) (.call 40 (.cons (.slot 0) (.cons (.ix (.slot 1) (.slot 8)) (.cons (.ix (.slot 7) (.neg (.c (.int 1)))) (.cons (.ix (.slot 2) (.slot 8)) (.cons (.slot 3) .nil))))))))) <|
  (.seq (.seq (.frz 7) <|
  (.drop (.app (.slot 4) (.slot 7)))) <|
  (.drop (.app (.slot 5) (.ix (.call 40 (.cons (.slot 0) (.cons (.ix (.slot 1) (.c (.int 0))) (.cons (.ix (.slot 7) (.neg (.c (.int 1)))) (.cons (.ix (.slot 2) (.c (.int 0))) (.cons (.slot 3) .nil)))))) (.slot 6))))))))) <|
  (.ret (.tup (.cons (.fz (.slot 4)) (.cons (.call 37 (.cons (.fz (.slot 5)) .nil)) .nil)))))))
theorem t_law_ring_numbers : trSs 60 c_law_ring_numbers (defBody s_law_ring_numbers) = some b_law_ring_numbers := by kernel_rfl
theorem sc_law_ring_numbers : FnScope n_law_ring_numbers ["_law_machine_here", "_law_ring", "_law_prices_here", "_law_fine"] (defScope s_law_ring_numbers) := ⟨by kernel_rfl, by kernel_rfl, by kernel_rfl, by decide +kernel, by kernel_rfl, by decide +kernel, by decide +kernel⟩
def b_law_tree_due : Sx := (.seq (.asg (.slot 5) (.call 27 (.cons (.slot 1) .nil))) <|
  (.seq (.asg (.slot 6) (.call 31 (.cons (.len (.slot 5)) (.cons (.ix (.slot 0) (.c (.int 1))) .nil)))) <|
  (.seq (.asg (.slot 7) (.lc false [17] (.len (.call 30 (.cons (.slot 0) (.cons (.slot 5) (.cons (.slot 17) .nil))))) (.slot 17) (.iSeq (.slot 6)) .noE)) <|
  (.seq (.asg (.slot 8) (.call 36 (.cons (.slot 6) (.cons (.lc false [10] (.call 34 (.cons (.slot 2) (.cons (.slot 3) (.cons (.ix (.slot 6) (.slot 10)) (.cons (.ix (.slot 7) (.slot 10)) .nil))))) (.slot 10) (.iRan (.len (.slot 6))) .noE) .nil)))) <|
  (.seq (.asg (.slot 9) (.lst true .nil)) <|
  (.seq (.forr (.slot 10) (.iRan (.len (.slot 6))) (.seq (.asg (.slot 11) (.len (.lc false [18] (.slot 18) (.slot 18) (.iRan (.len (.slot 5))) (.tv (.cmp .NotEq (.ix (.ix (.slot 6) (.slot 10)) (.slot 18)) (.ix (.slot 4) (.slot 18))))))) <|
  (.drop (.app (.slot 9) (.ix (.tup (.cons (.slot 11) (.cons (.c .non) .nil))) (.int (.cmp .Gt (.ix (.slot 7) (.slot 10)) (.c (.int 0))))))))) <|
  (.seq (.asg (.slot 12) (.len (.lc false [19] (.slot 19) (.slot 19) (.iSeq (.slot 7)) (.tv (.cmp .Eq (.slot 19) (.c (.int 0))))))) <|
  (.seq (.asg (.slot 13) (.lc false [10] (.bin .Mult false (.lst false (.cons (.c (.int 0)) .nil)) (.ix (.slot 0) (.c (.int 1)))) (.slot 10) (.iRan (.len (.slot 5))) .noE)) <|
  (.seq (.asg (.slot 14) (.lc false [10] (.lc false [20] (.int (.cmp .NotEq (.slot 20) (.ix (.slot 4) (.slot 10)))) (.slot 20) (.iRan (.ix (.slot 0) (.c (.int 1)))) .noE) (.slot 10) (.iRan (.len (.slot 5))) .noE)) <|
  (.seq (.asg (.slot 15) (.lst false (.cons (.call 39 (.cons (.slot 0) (.cons (.slot 5) (.cons (.slot 2) (.cons (.slot 3) .nil))))) (.cons (.call 39 (.cons (.slot 0) (.cons (.slot 5) (.cons (.slot 13) (.cons (.c (.int 1)) .nil))))) (.cons (.call 39 (.cons (.slot 0) (.cons (.slot 5) (.cons (.slot 14) (.cons (.c .non) .nil))))) .nil))))) <|
  (.seq (.asg (.slot 16) (.lst false (.cons (.slot 8) (.cons (.call 36 (.cons (.slot 6) (.cons (.slot 7) .nil))) (.cons (.call 36 (.cons (.slot 6) (.cons (.fz (.slot 9)) .nil))) .nil))))) <|
  (.ret (.bin .Add false (.lc false [10] (.bin .Add false (.ix (.slot 16) (.slot 10)) (.list false (.ix (.slot 15) (.slot 10)))) (.slot 10) (.iRan (.c (.int 3))) .noE) (.lst false (.cons (.slot 12) (.cons (.cmp .Gt (.slot 12) (.c (.int 0))) .nil))))))))))))))))
theorem t_law_tree_due : trSs 60 c_law_tree_due (defBody s_law_tree_due) = some b_law_tree_due := by kernel_rfl
theorem sc_law_tree_due : FnScope n_law_tree_due ["_law_machine_here", "_law_tree_here", "_law_prices_here", "_law_fine", "_law_old"] (defScope s_law_tree_due) := ⟨by kernel_rfl, by kernel_rfl, by kernel_rfl, by decide +kernel, by kernel_rfl, by decide +kernel, by decide +kernel⟩
def b_law_tree_told : Sx := (.seq (.asg (.slot 5) (.lst false (.cons (.call 12 (.cons (.slot 0) (.cons (.slot 1) (.cons (.slot 2) (.cons (.slot 3) .nil))))) (.cons (.call 13 (.cons (.slot 0) (.cons (.slot 1) .nil))) (.cons (.call 14 (.cons (.slot 0) (.cons (.slot 1) (.cons (.slot 4) .nil)))) .nil))))) <|
  (.seq (.asg (.slot 6) (.lst true .nil)) <|
  (.seq (.forr (.slot 7) (.iSeq (.slot 5)) (.drop (.app (.slot 6) (.lst false (.cons (.att (.slot 7) 5) (.cons (.list false (.att (.slot 7) 1)) (.cons (.lc false [8] (.list false (.slot 8)) (.slot 8) (.iSeq (.att (.slot 7) 6)) .noE) (.cons (.list false (.att (.slot 7) 3)) .nil)))))))) <|
  (.seq (.forr (.slot 7) (.iSeq (.slot 5)) (.seq (.forr (.slot 8) (.iSeq (.att (.slot 7) 6)) (.drop (.app (.slot 8) (.c (.int 7))))) <|
  (.seq (.drop (.app (.att (.slot 7) 1) (.c (.int 7)))) <|
  (.drop (.app (.att (.slot 7) 3) (.c (.int 7))))))) <|
  (.ret (.bin .Add false (.slot 6) (.lst false (.cons (.call 2 (.cons (.slot 0) (.cons (.slot 1) .nil))) (.cons (.call 3 (.cons (.slot 0) (.cons (.slot 1) .nil))) .nil)))))))))
theorem t_law_tree_told : trSs 60 c_law_tree_told (defBody s_law_tree_told) = some b_law_tree_told := by kernel_rfl
theorem sc_law_tree_told : FnScope n_law_tree_told ["_law_made_here", "_law_tree_here", "_law_prices_here", "_law_fine", "_law_old"] (defScope s_law_tree_told) := ⟨by kernel_rfl, by kernel_rfl, by kernel_rfl, by decide +kernel, by kernel_rfl, by decide +kernel, by decide +kernel⟩
def b_law_ring_due : Sx := (.seq (.asg (.slot 4) (.call 31 (.cons (.len (.slot 1)) (.cons (.ix (.slot 0) (.c (.int 1))) .nil)))) <|
  (.seq (.asg (.slot 5) (.lc false [7] (.len (.call 35 (.cons (.slot 0) (.cons (.slot 1) (.cons (.slot 7) .nil))))) (.slot 7) (.iSeq (.slot 4)) .noE)) <|
  (.seq (.asg (.slot 6) (.call 36 (.cons (.slot 4) (.cons (.lc false [8] (.call 34 (.cons (.slot 2) (.cons (.slot 3) (.cons (.ix (.slot 4) (.slot 8)) (.cons (.ix (.slot 5) (.slot 8)) .nil))))) (.slot 8) (.iRan (.len (.slot 4))) .noE) .nil)))) <|
  (.ret (.lst false (.cons (.bin .Add false (.slot 6) (.lst false (.cons (.ix (.call 41 (.cons (.slot 0) (.cons (.slot 1) (.cons (.slot 2) (.cons (.slot 3) .nil))))) (.c (.int 0))) .nil))) (.cons (.cmp .In (.c (.int 0)) (.slot 5)) .nil)))))))
theorem t_law_ring_due : trSs 60 c_law_ring_due (defBody s_law_ring_due) = some b_law_ring_due := by kernel_rfl
theorem sc_law_ring_due : FnScope n_law_ring_due ["_law_machine_here", "_law_ring", "_law_prices_here", "_law_fine"] (defScope s_law_ring_due) := ⟨by kernel_rfl, by kernel_rfl, by kernel_rfl, by decide +kernel, by kernel_rfl, by decide +kernel, by decide +kernel⟩
def b_law_ring_told : Sx := (.seq (.asg (.slot 4) (.call 21 (.cons (.slot 0) (.cons (.slot 1) (.cons (.slot 2) (.cons (.slot 3) .nil)))))) <|
  (.seq (.asg (.slot 5) (.lst false (.cons (.att (.slot 4) 5) (.cons (.list false (.att (.slot 4) 1)) (.cons (.lc false [6] (.lc false [7] (.list false (.slot 7)) (.slot 7) (.iSeq (.slot 6)) .noE) (.slot 6) (.iSeq (.att (.slot 4) 6)) .noE) .nil))))) <|
  (.seq (.drop (.app (.att (.slot 4) 1) (.c (.int 7)))) <|
  (.seq (.forr (.slot 6) (.iSeq (.att (.slot 4) 6)) (.forr (.slot 7) (.iSeq (.slot 6)) (.drop (.app (.slot 7) (.c (.int 7)))))) <|
  (.ret (.lst false (.cons (.slot 5) (.cons (.call 4 (.cons (.slot 0) (.cons (.slot 1) .nil))) .nil))))))))
theorem t_law_ring_told : trSs 60 c_law_ring_told (defBody s_law_ring_told) = some b_law_ring_told := by kernel_rfl
theorem sc_law_ring_told : FnScope n_law_ring_told ["_law_made_here", "_law_ring", "_law_prices_here", "_law_fine"] (defScope s_law_ring_told) := ⟨by kernel_rfl, by kernel_rfl, by kernel_rfl, by decide +kernel, by kernel_rfl, by decide +kernel, by decide +kernel⟩
def b_law_moved : Sx := (.seq (.forr (.slot 6) (.iSeq (.tup (.cons (.ix (.slot 0) (.c (.int 0))) (.cons (.ix (.slot 3) (.neg (.c (.int 1)))) .nil)))) (.seti (.slot 6) (.c (.int 0)) (.bin .Add false (.ix (.slot 6) (.c (.int 0))) (.c (.int 1))))) <|
  (.seq (.seti (.slot 1) (.c (.int 0)) (.bin .Mod false (.int (.bin .Add false (.ix (.slot 1) (.c (.int 0))) (.c (.int 1)))) (.slot 5))) <|
  (.seti (.slot 2) (.c (.int 0)) (.bin .Mod false (.int (.bin .Add false (.ix (.slot 2) (.c (.int 0))) (.c (.int 1)))) (.slot 4)))))
theorem t_law_moved : trSs 60 c_law_moved (defBody s_law_moved) = some b_law_moved := by kernel_rfl
theorem sc_law_moved : FnScope n_law_moved ["_law_prices_here", "_law_old", "_law_ring", "_law_more", "_law_letters", "_law_labels"] (defScope s_law_moved) := ⟨by kernel_rfl, by kernel_rfl, by kernel_rfl, by decide +kernel, by kernel_rfl, by decide +kernel, by decide +kernel⟩
def b_law : Sx := (.seq (.asg (.slot 1) (.call 22 (.cons (.slot 0) (.cons (.c (.int 0)) .nil)))) <|
  (.seq (.asg (.slot 2) (.bin .Add false (.c (.int 1)) (.call 23 (.cons (.slot 1) (.cons (.c (.int 3)) .nil))))) <|
  (.seq (.asg (.slot 3) (.bin .Add false (.c (.int 1)) (.call 23 (.cons (.slot 1) (.cons (.c (.int 3)) .nil))))) <|
  (.seq (.asg (.slot 4) (.lc false [7] (.call 25 (.cons (.slot 1) (.cons (.slot 2) (.cons (.slot 3) (.cons (.c (.int 10)) .nil))))) (.slot 7) (.iRan (.c (.int 2))) .noE)) <|
  (.seq (.asg (.slot 5) (.lc false [17] (.call 32 (.cons (.slot 17) .nil)) (.slot 17) (.iSeq (.slot 4)) .noE)) <|
  (.seq (.asg (.slot 6) (.lst true .nil)) <|
  (.seq (.forr (.slot 7) (.iRan (.c (.int 2))) (.seq (.asg (.slot 8) (.call 29 (.cons (.slot 1) (.cons (.slot 2) (.cons (.c (.int 4)) .nil))))) <|
  (.seq (.asg (.slot 9) (.len (.call 27 (.cons (.slot 8) .nil)))) <|
  (.seq (.asg (.slot 10) (.lc true [11] (.call 23 (.cons (.slot 1) (.cons (.slot 2) .nil))) (.slot 11) (.iRan (.bin .Add false (.c (.int 1)) (.call 23 (.cons (.slot 1) (.cons (.c (.int 4)) .nil))))) .noE)) <|
  (.drop (.app (.slot 6) (.tup (.cons (.slot 8) (.cons (.call 33 (.cons (.slot 1) (.cons (.slot 9) (.cons (.slot 3) .nil)))) (.cons (.ix (.tup (.cons (.c .non) (.cons (.c (.int 1)) (.cons (.c (.int 4)) .nil)))) (.call 23 (.cons (.slot 1) (.cons (.c (.int 3)) .nil)))) (.cons (.lc true [11] (.call 23 (.cons (.slot 1) (.cons (.slot 3) .nil))) (.slot 11) (.iRan (.slot 9)) .noE) (.cons (.slot 10) (.cons (.call 33 (.cons (.slot 1) (.cons (.len (.slot 10)) (.cons (.slot 3) .nil)))) .nil))))))))))))) <|
  (.seq (.seq (.frz 6) <|
  (.forr (.slot 11) (.iRan (.c (.int 2))) (.seq (.forr (.slot 12) (.iRan (.c (.int 2))) (.forr (.gTup (.cons (.slot 8) (.cons (.slot 13) (.cons (.slot 14) (.cons (.slot 15) (.cons (.slot 10) (.cons (.slot 16) .nil))))))) (.iSeq (.slot 6)) (.seq (.iff (.tnot (.tv (.bor (.call 24 (.cons (.call 43 (.cons (.ix (.slot 5) (.slot 12)) (.cons (.slot 8) (.cons (.slot 13) (.cons (.slot 14) (.cons (.slot 15) .nil)))))) (.cons (.call 42 (.cons (.ix (.slot 4) (.slot 12)) (.cons (.slot 8) (.cons (.slot 13) (.cons (.slot 14) (.cons (.slot 15) .nil)))))) .nil)))))) (.ret (.c (.bl false))) .skip) <|
  (.iff (.tnot (.tv (.bor (.call 24 (.cons (.call 45 (.cons (.ix (.slot 5) (.slot 12)) (.cons (.slot 10) (.cons (.slot 16) (.cons (.slot 14) .nil))))) (.cons (.call 44 (.cons (.ix (.slot 4) (.slot 12)) (.cons (.slot 10) (.cons (.slot 16) (.cons (.slot 14) .nil))))) .nil)))))) (.ret (.c (.bl false))) .skip)))) <|
  (.forr (.gTup (.cons (.slot 8) (.cons (.slot 13) (.cons (.slot 14) (.cons (.slot 15) (.cons (.slot 10) (.cons (.slot 16) .nil))))))) (.iSeq (.slot 6)) (.drop (.call 46 (.cons (.slot 13) (.cons (.slot 15) (.cons (.slot 10) (.cons (.slot 16) (.cons (.slot 2) (.cons (.slot 3) .nil)))))))))))) <|
  (.ret (.c (.bl true)))))))))))
theorem t_law : trSs 60 c_law (defBody s_law) = some b_law := by kernel_rfl
theorem sc_law : FnScope n_law ["_law_script"] (defScope s_law) := ⟨by kernel_rfl, by kernel_rfl, by kernel_rfl, by decide +kernel, by kernel_rfl, by decide +kernel, by decide +kernel⟩
end Ob
/-! part Ok -/
/-! Words for walking short texts. -/
namespace Ob
open PySem L2

/-! ### what stands for what -/
def oD : Option Pr → Dt
  | none => .non
  | some p => prD p
def oiD : Option Int → Dt
  | none => .non
  | some i => .int i
abbrev rowD (r : List (Option Pr)) : Dt := .lst (r.map oD)

section
variable {F : Nat → FS} {m : Bool} {u : Mu} {K : Dt → Mu → Prop}
theorem bk_addi (i j : Int) : binK .Add m (.int i) (.int j) u K = K (.int (i + j)) u := rfl
theorem bk_sub (i j : Int) : binK .Sub m (.int i) (.int j) u K = K (.int (i - j)) u := rfl
theorem bk_mul (i j : Int) : binK .Mult m (.int i) (.int j) u K = ((i.natAbs < 4294967296 ∨ j.natAbs < 4294967296) ∧ K (.int (i * j)) u) := rfl
theorem bk_mod (i j : Int) : binK .Mod m (.int i) (.int j) u K = (0 < j ∧ K (.int (i % j)) u) := rfl
theorem bk_div (i j : Int) : binK .FloorDiv m (.int i) (.int j) u K = ((0 < j ∧ j < 1073741824) ∧ K (.int (i / j)) u) := rfl
theorem bk_pow (i j : Int) : binK .Pow m (.int i) (.int j) u K = ((0 ≤ j ∧ j ≤ 1000 ∧ i.natAbs < 4294967296) ∧ K (.int (i ^ j.toNat)) u) := rfl
theorem bk_cat (a b : List Dt) : binK .Add m (.lst a) (.lst b) u K = (a.length + b.length ≤ LIM ∧ newK m (a ++ b) u K) := by
  show (∃ xs ys, lstOf u (.lst a) = some xs ∧ lstOf u (.lst b) = some ys ∧ xs.length + ys.length ≤ LIM ∧ newK m (xs ++ ys) u K) = _
  simp only [lstOf, Option.some.injEq, exists_eq_left', exists_and_left]
theorem bk_cata {p : Addr} {a b : List Dt} (h : get u p = some (.lst a)) : binK .Add m (.adr p) (.lst b) u K = (a.length + b.length ≤ LIM ∧ newK m (a ++ b) u K) := by
  show (∃ xs ys, lstOf u (.adr p) = some xs ∧ lstOf u (.lst b) = some ys ∧ xs.length + ys.length ≤ LIM ∧ newK m (xs ++ ys) u K) = _
  simp only [lstOf, h, Option.some.injEq, exists_eq_left', exists_and_left]
theorem bk_rep (a : List Dt) (k : Int) : binK .Mult m (.lst a) (.int k) u K = (0 ≤ k ∧ k ≤ 1000 ∧ a.length ≤ 1000 ∧ newK m (List.replicate k.toNat a).flatten u K) := by
  show (∃ xs, lstOf u (.lst a) = some xs ∧ 0 ≤ k ∧ k ≤ 1000 ∧ xs.length ≤ 1000 ∧ newK m (List.replicate k.toNat xs).flatten u K) = _
  simp only [lstOf, Option.some.injEq, exists_eq_left']
theorem nk_f (ds : List Dt) : newK false ds u K = K (.lst ds) u := rfl
theorem nk_t (ds : List Dt) : newK true ds u K = ∀ p, p ∉ adrs u → K (.adr p) ((p, .lst ds) :: u) := rfl
theorem sq_lst (ds : List Dt) : seqOf u (.lst ds) = some ds := rfl
theorem sq_pr (p : Pr) : seqOf u (prD p) = some [.int p.1, .lst (p.2.map .int)] := rfl
theorem sq_tup (ds : List Dt) : seqOf u (.tup ds) = some ds := rfl
theorem sq_adr {p : Addr} {ds : List Dt} (h : get u p = some (.lst ds)) : seqOf u (.adr p) = some ds := by
  show (match get u p with
    | some (.lst ds) => some ds
    | _ => none) = some ds
  rw [h]
theorem ls_adr {p : Addr} {ds : List Dt} (h : get u p = some (.lst ds)) : lstOf u (.adr p) = some ds := by
  show (match get u p with
    | some (.lst ds) => some ds
    | _ => none) = some ds
  rw [h]
theorem ls_lst (ds : List Dt) : lstOf u (.lst ds) = some ds := rfl
theorem fz_lst (ds : List Dt) : frzOf (.lst ds) = some ds := rfl
theorem fz_tup (ds : List Dt) : frzOf (.tup ds) = some ds := rfl
theorem ts_non : truS u .non = some false := rfl
theorem ts_bl (b : Bool) : truS u (.bl b) = some b := rfl
theorem ts_pr (p : Pr) : truS u (prD p) = some true := rfl
theorem ts_adr {p : Addr} {ds : List Dt} (h : get u p = some (.lst ds)) : truS u (.adr p) = some (!ds.isEmpty) := by
  show (match get u p with
    | some (.lst ds) => some (!ds.isEmpty)
    | _ => none) = _
  rw [h]
theorem cm_lt (i j : Int) : cmpS u .Lt (.int i) (.int j) = some (decide (i < j)) := rfl
theorem cm_le (i j : Int) : cmpS u .LtE (.int i) (.int j) = some (decide (i ≤ j)) := rfl
theorem cm_gt (i j : Int) : cmpS u .Gt (.int i) (.int j) = some (decide (j < i)) := rfl
theorem cm_ge (i j : Int) : cmpS u .GtE (.int i) (.int j) = some (decide (j ≤ i)) := rfl
theorem cm_eq (i j : Int) : cmpS u .Eq (.int i) (.int j) = some (decide (i = j)) := rfl
theorem cm_ne (i j : Int) : cmpS u .NotEq (.int i) (.int j) = some (!decide (i = j)) := rfl
theorem cm_eqb (i j : Bool) : cmpS u .Eq (.bl i) (.bl j) = some (decide (i = j)) := rfl
theorem cm_neb (i j : Bool) : cmpS u .NotEq (.bl i) (.bl j) = some (!decide (i = j)) := rfl
theorem cm_is (x : Dt) : cmpS u .Is x .non = some (isN x) := by cases x <;> rfl
theorem cm_isn (x : Dt) : cmpS u .IsNot x .non = some (!isN x) := by cases x <;> rfl
theorem in_non : isN .non = true := rfl
theorem in_int (i : Int) : isN (.int i) = false := rfl
theorem in_pr (p : Pr) : isN (prD p) = false := rfl
theorem in_o (p : Option Pr) : isN (oD p) = p.isNone := by cases p <;> rfl
theorem in_oi (p : Option Int) : isN (oiD p) = p.isNone := by cases p <;> rfl
/-- in a dict of moves -/
theorem cm_ink (k : Mv) (ms : List Mv) : cmpS u .NotIn (.tup [.int k.1, .tup (k.2.1.map .int), .int k.2.2]) (.keys ms) = some (!decide (k ∈ ms)) := by
  show ((mvOf (mvD k)).map fun k => decide (k ∈ ms)).map Bool.not = _
  rw [mvOf_mvD]
  rfl
theorem cm_inm (k : Mv) (ms : List Mv) : cmpS u .In (.tup [.int k.1, .tup (k.2.1.map .int), .int k.2.2]) (.lst (ms.map mvD)) = some (decide (k ∈ ms)) := by
  show (match mvOf (mvD k), mvsOf (ms.map mvD) with
    | some k, some ms => some (decide (k ∈ ms))
    | _, _ => none) = _
  rw [mvOf_mvD, mvsOf_map]
theorem cm_ninm (k : Mv) (ms : List Mv) : cmpS u .NotIn (.tup [.int k.1, .tup (k.2.1.map .int), .int k.2.2]) (.lst (ms.map mvD)) = some (!decide (k ∈ ms)) := by
  show (match mvOf (mvD k), mvsOf (ms.map mvD) with
    | some k, some ms => some (decide (k ∈ ms))
    | _, _ => none).map Bool.not = _
  rw [mvOf_mvD, mvsOf_map]
  rfl
theorem any_int (i : Int) : ∀ ns : List Int, ((ns.map Dt.int).any fun d => eqF d (.int i)) = decide (i ∈ ns)
  | [] => by simp
  | n :: ns => by
    rw [List.map_cons, List.any_cons, any_int i ns]
    show (decide (n = i) || decide (i ∈ ns)) = _
    by_cases h : n = i
    · rw [h]
      simp
    · have h2 : ¬ i = n := fun e => h e.symm
      simp [h, h2]
theorem flat_ints : ∀ ns : List Int, (ns.map Dt.int).all flat = true
  | [] => rfl
  | n :: ns => by
    rw [List.map_cons, List.all_cons, flat_ints ns]
    rfl
theorem in_ints {y : Dt} {ns : List Int} (i : Int) (h : seqOf u y = some (ns.map .int)) : inS u (.int i) y = some (decide (i ∈ ns)) := by
  have e : inS u (.int i) y = (match seqOf u y with
    | some ds => if flat (.int i) && ds.all flat then some (ds.any fun d => eqF d (.int i)) else none
    | none => none) := by cases y <;> rfl
  rw [e, h]
  show (if (true && (ns.map Dt.int).all flat) = true then some ((ns.map Dt.int).any fun d => eqF d (.int i)) else none) = _
  rw [flat_ints, any_int]
  rfl
theorem cm_in {y : Dt} {ns : List Int} (i : Int) (h : seqOf u y = some (ns.map .int)) : cmpS u .In (.int i) y = some (decide (i ∈ ns)) := by
  have e : cmpS u .In (.int i) y = inS u (.int i) y := by cases y <;> rfl
  rw [e, in_ints i h]
theorem cm_nin {y : Dt} {ns : List Int} (i : Int) (h : seqOf u y = some (ns.map .int)) : cmpS u .NotIn (.int i) y = some (!decide (i ∈ ns)) := by
  have e : cmpS u .NotIn (.int i) y = (inS u (.int i) y).map Bool.not := by cases y <;> rfl
  rw [e, in_ints i h]
  rfl
theorem at_0 {α : Type} (a : α) (l : List α) : atI (a :: l) 0 = some a := atI_nat (j := 0) rfl
theorem at_1 {α : Type} (a b : α) (l : List α) : atI (a :: b :: l) 1 = some b := atI_nat (j := 1) rfl
theorem at_2 {α : Type} (a b c : α) (l : List α) : atI (a :: b :: c :: l) 2 = some c := atI_nat (j := 2) rfl
theorem at_3 {α : Type} (a b c d : α) (l : List α) : atI (a :: b :: c :: d :: l) 3 = some d := atI_nat (j := 3) rfl
theorem at_4 {α : Type} (a b c d e : α) (l : List α) : atI (a :: b :: c :: d :: e :: l) 4 = some e := atI_nat (j := 4) rfl
theorem at_n {α : Type} {l : List α} {i : Nat} {v : α} (h : l[i]? = some v) : atI l (i : Int) = some v := atI_nat h
theorem at_map {α β : Type} (f : α → β) {l : List α} {i : Nat} {v : α} (h : l[i]? = some v) : atI (l.map f) (i : Int) = some (f v) := atI_nat (by rw [List.getElem?_map, h]; rfl)
theorem at_m1 {α : Type} {l : List α} {v : α} (h : l.getLast? = some v) : atI l (-1) = some v := by
  have hne : l ≠ [] := by
    intro e
    rw [e] at h
    cases h
  have e : l = l.dropLast ++ [v] := by
    have h2 := List.getLast?_eq_getLast hne
    rw [h2] at h
    have h3 := Option.some.inj h
    rw [← h3]
    exact (List.dropLast_concat_getLast hne).symm
  rw [e]
  exact atI_last _ v
theorem gt_hd (p : Addr) (c : Cell) : get ((p, c) :: u) p = some c := by
  unfold get
  rw [if_pos rfl]
theorem gt_tl {p q : Addr} (c : Cell) (h : q ≠ p) : get ((q, c) :: u) p = get u p := by
  show (if q = p then some c else get u p) = _
  rw [if_neg h]
theorem pt_hd (p : Addr) (c d : Cell) : put ((p, c) :: u) p d = (p, d) :: u := by
  unfold put
  rw [if_pos rfl]
theorem dl_hd (p : Addr) (c : Cell) : del ((p, c) :: u) p = u := by
  unfold del
  rw [if_pos rfl]
theorem pt_tl {p q : Addr} (c d : Cell) (h : q ≠ p) : put ((q, c) :: u) p d = (q, c) :: put u p d := by
  show (if q = p then (p, d) :: u else (q, c) :: put u p d) = _
  rw [if_neg h]
theorem dl_tl {p q : Addr} (c : Cell) (h : q ≠ p) : del ((q, c) :: u) p = (q, c) :: del u p := by
  show (if q = p then u else (q, c) :: del u p) = _
  rw [if_neg h]
theorem put_put : ∀ (u : Mu) (p : Addr) (c d : Cell), put (put u p c) p d = put u p d
  | [], _, _, _ => rfl
  | (q, e) :: u, p, c, d => by
    by_cases h : q = p
    · subst h
      rw [pt_hd, pt_hd, pt_hd]
    · rw [pt_tl _ _ h, pt_tl _ _ h, pt_tl _ _ h, put_put u p c d]
theorem get_put : ∀ {u : Mu} {p : Addr} {c d : Cell}, get u p = some c → get (put u p d) p = some d
  | (q, e) :: u, p, c, d, h => by
    by_cases hq : q = p
    · subst hq
      rw [pt_hd, gt_hd]
    · rw [gt_tl _ hq] at h
      rw [pt_tl _ _ hq, gt_tl _ hq]
      exact get_put h
theorem get_put_ne : ∀ {u : Mu} {p q : Addr} {d : Cell}, p ≠ q → get (put u p d) q = get u q
  | [], _, _, _, _ => rfl
  | (r, e) :: u, p, q, d, h => by
    by_cases hr : r = p
    · subst hr
      rw [pt_hd, gt_tl _ h, gt_tl _ h]
    · rw [pt_tl _ _ hr]
      by_cases hq : r = q
      · subst hq
        rw [gt_hd, gt_hd]
      · rw [gt_tl _ hq, gt_tl _ hq]
        exact get_put_ne h
theorem get_adr {u : Mu} {p : Addr} {c : Cell} (h : get u p = some c) : p ∈ adrs u := mem_adrs (get_mem h)
theorem ne_fresh {u : Mu} {p q : Addr} {c : Cell} (h : get u p = some c) (hq : q ∉ adrs u) : q ≠ p := fun e => hq (by rw [e]; exact get_adr h)
/-- a list cell whose items hold no list cell, put to rest -/
def noAdr : Dt → Bool
  | .adr _ => false
  | _ => true
theorem fz1_no {d : Dt} (h : noAdr d = true) : fz1 u d = (d, u) := by
  cases d <;> first | rfl | cases h
theorem fzL_no : ∀ {ds : List Dt} {u : Mu}, ds.all noAdr = true → fzL u ds = (ds, u)
  | [], _, _ => rfl
  | d :: ds, u, h => by
    rw [List.all_cons, Bool.and_eq_true] at h
    show ((fz1 u d).1 :: (fzL (fz1 u d).2 ds).1, (fzL (fz1 u d).2 ds).2) = _
    rw [fz1_no h.1, fzL_no h.2]
theorem fz2_cell {p : Addr} {ds : List Dt} (h : get u p = some (.lst ds)) (hn : ds.all noAdr = true) : fz2 u (.adr p) = (.lst ds, del u p) := by
  show (match get u p with
    | some (.lst ds) => ((.lst (fzL (del u p) ds).1 : Dt), (fzL (del u p) ds).2)
    | _ => (.adr p, u)) = _
  rw [h]
  show ((.lst (fzL (del u p) ds).1 : Dt), (fzL (del u p) ds).2) = _
  rw [fzL_no hn]
theorem fz2_hd {p : Addr} {ds : List Dt} (hn : ds.all noAdr = true) : fz2 ((p, .lst ds) :: u) (.adr p) = (.lst ds, u) := by
  rw [fz2_cell (gt_hd p _) hn, dl_hd]
theorem no_o (p : Option Pr) : noAdr (oD p) = true := by cases p <;> rfl
theorem no_row (r : List (Option Pr)) : (r.map oD).all noAdr = true := by
  rw [List.all_map, List.all_eq_true]
  exact fun p _ => no_o p
theorem no_map {α : Type} (f : α → Dt) (h : ∀ a, noAdr (f a) = true) (l : List α) : (l.map f).all noAdr = true := by
  rw [List.all_map, List.all_eq_true]
  exact fun p _ => h p
/-- a comprehension that changes nothing -/
theorem lc_pure {α : Type} {xs : List α} {enc : α → Dt} {g : α → Option Dt} {own : List Nat} {elt tg tt : Ex} {l : Dl} (hn : xs.length ≤ LIM)
    (h : ∀ x, x ∈ xs → ∀ J : Option Dt → Prop, J (g x) → wpG tg (enc x) (wipeD l own) fun l2 => wpT F tt l2 u fun b u3 => (b = true → wpE F elt l2 u3 fun y u4 => u4 = u ∧ J (some y)) ∧ (b = false → u3 = u ∧ J none))
    (k : newK m (xs.filterMap g) u K) : (xs.map enc).length ≤ LIM ∧ ∃ I : Nat → List Dt → Mu → Prop, I 0 [] u ∧
      (∀ i acc u2 d, (xs.map enc)[i]? = some d → I i acc u2 → wpG tg d (wipeD l own) fun l2 => wpT F tt l2 u2 fun b u3 => (b = true → wpE F elt l2 u3 fun y u4 => I (i + 1) (acc ++ [y]) u4) ∧ (b = false → I (i + 1) acc u3)) ∧
      ∀ acc u2, I (xs.map enc).length acc u2 → newK m acc u2 K := by
  refine ⟨by rw [List.length_map]; exact hn, fun i acc u2 => u2 = u ∧ acc = (xs.take i).filterMap g, ⟨rfl, rfl⟩, ?_, ?_⟩
  · rintro i acc u2 d hd ⟨rfl, rfl⟩
    rw [List.getElem?_map] at hd
    cases e : xs[i]? with
    | none =>
      rw [e] at hd
      cases hd
    | some x =>
      rw [e] at hd
      cases hd
      have hj := h x (List.mem_of_getElem? e) (fun o => (xs.take i).filterMap g ++ o.toList = (xs.take (i + 1)).filterMap g) (by
        rw [List.take_add_one, e, List.filterMap_append]
        cases q : g x <;> simp [List.filterMap_cons, q])
      have e2 : ∀ y : Dt, ((xs.take i).filterMap g ++ (some y).toList = (xs.take (i + 1)).filterMap g) = ((xs.take i).filterMap g ++ [y] = (xs.take (i + 1)).filterMap g) := fun y => rfl
      have e3 : ((xs.take i).filterMap g ++ (none : Option Dt).toList = (xs.take (i + 1)).filterMap g) = ((xs.take i).filterMap g = (xs.take (i + 1)).filterMap g) := by
        show ((xs.take i).filterMap g ++ [] = _) = _
        rw [List.append_nil]
      simp only [e3] at hj
      exact hj
  · rintro acc u2 ⟨rfl, rfl⟩
    rw [List.length_map, List.take_length]
    exact k
/-- a for as a fold -/
theorem for_fold {α β : Type} {xs : List α} {enc : α → Dt} {step : β → α → β} {b0 : β} {tg : Ex} {body : Sx} {l : Dl} {u : Mu} {K : Dl → Mu → Prop} {R : Dt → Mu → Prop} (St : β → Dl → Mu → Prop) (h0 : St b0 l u)
    (hs : ∀ i x l2 u2, xs[i]? = some x → St ((xs.take i).foldl step b0) l2 u2 → wpG tg (enc x) l2 fun l3 => wpS F body l3 u2 (St (step ((xs.take i).foldl step b0) x)) R) (hd : ∀ l2 u2, St (xs.foldl step b0) l2 u2 → K l2 u2) :
    ∃ I : Nat → Dl → Mu → Prop, I 0 l u ∧ (∀ i l2 u2 d, (xs.map enc)[i]? = some d → I i l2 u2 → wpG tg d l2 fun l3 => wpS F body l3 u2 (I (i + 1)) R) ∧ ∀ l2 u2, I (xs.map enc).length l2 u2 → K l2 u2 := by
  refine ⟨fun i => St ((xs.take i).foldl step b0), h0, ?_, ?_⟩
  · intro i l2 u2 d hd' hst
    rw [List.getElem?_map] at hd'
    cases e : xs[i]? with
    | none =>
      rw [e] at hd'
      cases hd'
    | some x =>
      rw [e] at hd'
      cases hd'
      have q := hs i x l2 u2 e hst
      have e2 : (xs.take (i + 1)).foldl step b0 = step ((xs.take i).foldl step b0) x := by
        rw [List.take_add_one, e, List.foldl_append]
        rfl
      show wpG tg (enc x) l2 fun l3 => wpS F body l3 u2 (St ((xs.take (i + 1)).foldl step b0)) R
      rw [e2]
      exact q
  · intro l2 u2 h
    rw [List.length_map, List.take_length] at h
    exact hd l2 u2 h
theorem enum_map {α : Type} (e : α → Dt) (xs : List α) : (xs.map e).mapIdx (fun i d => Dt.tup [.int (i : Nat), d]) = xs.zipIdx.map fun x => Dt.tup [.int (x.2 : Nat), e x.1] := by
  apply List.ext_getElem?
  intro i
  rw [List.getElem?_mapIdx, List.getElem?_map, List.getElem?_map, List.getElem?_zipIdx]
  cases xs[i]? <;> simp
theorem zip_get {α : Type} {xs : List α} {i : Nat} {x : α × Nat} (h : xs.zipIdx[i]? = some x) : x.2 = i ∧ xs[i]? = some x.1 := by
  rw [List.getElem?_zipIdx] at h
  cases e : xs[i]? with
  | none =>
    rw [e] at h
    cases h
  | some y =>
    rw [e] at h
    cases h
    exact ⟨by simp, rfl⟩
theorem fm_some {α β : Type} (f : α → β) (xs : List α) : xs.filterMap (fun x => some (f x)) = xs.map f := by
  induction xs with
  | nil => rfl
  | cons x xs ih => simp [ih]
end
end Ob
/-! part Ma -/
/-! What the program's defs reckon, in plain Lean. -/
namespace Ob
open PySem L2

/-- trees of at most two children -/
inductive Tr where
  | n0 (l : Int)
  | n1 (l : Int) (a : Tr)
  | n2 (l : Int) (a b : Tr)
def Tr.size : Tr → Nat
  | .n0 _ => 1
  | .n1 _ a => a.size + 1
  | .n2 _ a b => a.size + b.size + 1
def treeD : Tr → Dt
  | .n0 l => .tup [.int l, .tup []]
  | .n1 l a => .tup [.int l, .tup [treeD a]]
  | .n2 l a b => .tup [.int l, .tup [treeD a, treeD b]]
abbrev Nd := Int × List Nat
abbrev natD (i : Nat) : Dt := .int (i : Int)
def ndD (x : Nd) : Dt := .tup [.int x.1, .tup (x.2.map natD)]
def shiftN (k : Nat) (x : Nd) : Nd := (x.1, x.2.map (· + k))
/-- the people: children ahead of their parent -/
def nodes : Tr → List Nd
  | .n0 l => [(l, [])]
  | .n1 l a => nodes a ++ [(l, [a.size - 1])]
  | .n2 l a b => nodes a ++ (nodes b).map (shiftN a.size) ++ [(l, [a.size - 1, a.size + b.size - 1])]
/-- a machine -/
structure Mac where
  L : Nat
  n : Nat
  mv : List Mv
  en : List Int
def macD (m : Mac) : Dt := .ins 0 [(0, .int m.L), (1, .int m.n), (2, .tup (m.mv.map mvD)), (3, .tup (m.en.map .int))]
structure Mac.Ok (m : Mac) : Prop where
  n : m.n ≤ 8
  nd : m.mv.Nodup
  few : m.mv.length ≤ 100
  lab : ∀ x ∈ m.mv, 0 ≤ x.2.2 ∧ x.2.2 < m.n
  ch : ∀ x ∈ m.mv, x.2.1.length ≤ 2 ∧ ∀ c ∈ x.2.1, 0 ≤ c ∧ c < (m.n : Int)
  efew : m.en.length ≤ 100
  eok : ∀ x ∈ m.en, 0 ≤ x ∧ x < (m.n : Int)

/-! ### better, charged -/
def better : Option Pr → Option Pr → Option Pr
  | none, b => b
  | some a, none => some a
  | some a, some b => some (prMin a b)
def charged (c : Int) (o : Bool) (f : Option Int) : Option Int := if o then f.map (c + ·) else some c
def costOf (p : Option Pr) : Option Int := p.map (·.1)

/-! ### trees -/
abbrev Bl := List Int × Pr
def blD (x : Bl) : Dt := .tup [.tup (x.1.map .int), prD x.2]
abbrev Row := List (Option Pr)
def belowOne (x : Bl) (o : Option Pr × Nat) : Option Bl := o.1.map fun q => (x.1 ++ [(o.2 : Int)], (x.2.1 + q.1, x.2.2 ++ q.2))
def belowStep (done : List Row) (found : List Bl) (c : Nat) : List Bl := found.flatMap fun x => (done.getD c []).zipIdx.filterMap (belowOne x)
def belowOf (cs : List Nat) (done : List Row) : List Bl := cs.foldl (belowStep done) [([], (0, []))]
def rowStep (m : Mac) (pr : List Int) (f : Option Int) (letter : Int) (root : Bool) (lab : Nat) (best : Option Pr) (x : Bl) : Option Pr :=
  match charged (x.2.1 + pr.getD lab 0) (!decide ((letter, x.1, (lab : Int)) ∈ m.mv) || (root && !decide ((lab : Int) ∈ m.en))) f with
  | none => best
  | some c => better best (some (c, x.2.2 ++ [(lab : Int)]))
def rowF (m : Mac) (pr : List Int) (f : Option Int) (letter : Int) (bl : List Bl) (root : Bool) : Row := (List.range m.n).map fun lab => bl.foldl (rowStep m pr f letter root lab) none
def doneStep (m : Mac) (P : List (List Int)) (f : Option Int) (done : List Row) (x : Nd × Nat) : List Row := done ++ [rowF m (P.getD x.2 []) f x.1.1 (belowOf x.1.2 done) false]
def doneF (m : Mac) (P : List (List Int)) (f : Option Int) (ns : List Nd) : List Row := ns.zipIdx.foldl (doneStep m P f) []
def endsF (m : Mac) (P : List (List Int)) (f : Option Int) (ns : List Nd) : Row := let x := ns.getLastD (0, []); rowF m (P.getD (ns.length - 1) []) f x.1 (belowOf x.2 (doneF m P f ns)) true
structure Fnd where
  cost : Option Int
  labels : List Int
  numbers : List (List (Option Int))
  ends : List (Option Int)
def foundOf (found : Option Pr) (numbers : List (List (Option Int))) (ends : List (Option Int)) : Fnd := ⟨costOf found, (match found with | none => [] | some p => p.2), numbers, ends⟩
def bestF (m : Mac) (t : Tr) (P : List (List Int)) (f : Option Int) : Fnd :=
  foundOf ((endsF m P f (nodes t)).foldl better none) ((doneF m P f (nodes t)).map fun r => r.map costOf) ((endsF m P f (nodes t)).map costOf)
def fewestF (m : Mac) (t : Tr) : Fnd := bestF m t ((nodes t).map fun _ => List.replicate m.n 0) (some 1)
def changeP (n : Nat) (old : List Int) : List (List Int) := old.map fun o => (List.range n).map fun (lab : Nat) => if (lab : Int) = o then (0 : Int) else 1
def afterF (m : Mac) (t : Tr) (old : List Int) : Fnd := bestF m t (changeP m.n old) none

/-! ### ways -/
def cntOne (done : List (List Int)) (c : Int) (x : Nat × Int) : Int := c * ((done.getD x.1 []).getD x.2.toNat 0)
def cntStep (nd : Nd) (done : List (List Int)) (row : List Int) (x : Mv) : List Int :=
  if x.1 = nd.1 ∧ x.2.1.length = nd.2.length then row.set x.2.2.toNat (row.getD x.2.2.toNat 0 + (nd.2.zip x.2.1).foldl (cntOne done) 1) else row
def cntRow (m : Mac) (done : List (List Int)) (nd : Nd) : List (List Int) := done ++ [m.mv.foldl (cntStep nd done) (List.replicate m.n 0)]
def countedF (m : Mac) (t : Tr) : List (List Int) := (nodes t).foldl (cntRow m) []
def waysF (m : Mac) (t : Tr) : Int := ((((countedF m t).getLastD []).zipIdx.filter fun x => decide ((x.2 : Int) ∈ m.en)).map (·.1)).sum
def knownStep (m : Mac) (known : List Int) (letter : Int) : List Int := ((m.mv.filter fun x => decide (x.1 = letter) && decide (x.2.1.length = 1)).filter fun x => decide (x.2.1.getD 0 0 ∈ known)).map (·.2.2)
def ringWish (m : Mac) (ring : List Int) : Bool := (List.range m.n).any fun first => decide ((first : Int) ∈ ring.foldl (knownStep m) [(first : Int)])

/-! ### rings -/
def chargeR (m : Mac) (ring : List Int) (f : Option Int) (c : Int) (at_ : Nat) (before lab : Int) : Option Int := charged c (!decide ((ring.getD at_ 0, [before], lab) ∈ m.mv)) f
def ringStep (m : Mac) (ring : List Int) (P : List (List Int)) (f : Option Int) (at_ lab : Nat) (best : Option Pr) (o : Option Pr × Nat) : Option Pr := match o.1 with
  | none => best
  | some q => match chargeR m ring f (q.1 + (P.getD at_ []).getD lab 0) at_ o.2 lab with
    | none => best
    | some c => better best (some (c, q.2 ++ [(lab : Int)]))
def ringRow (m : Mac) (ring : List Int) (P : List (List Int)) (f : Option Int) (at_ : Nat) (before : Row) : Row := (List.range m.n).map fun lab => before.zipIdx.foldl (ringStep m ring P f at_ lab) none
def ringRow0 (n first : Nat) : Row := (List.range n).map fun (lab : Nat) => if (lab : Int) = (first : Int) then some (0, [(first : Int)]) else none
def ringRows (m : Mac) (ring : List Int) (P : List (List Int)) (f : Option Int) (first : Nat) : List Row :=
  (List.range (ring.length - 1)).foldl (fun rows i => rows ++ [ringRow m ring P f (i + 1) (rows.getLastD [])]) [ringRow0 m.n first]
def closeStep (m : Mac) (ring : List Int) (P : List (List Int)) (f : Option Int) (first : Nat) (best : Option Pr) (o : Option Pr × Nat) : Option Pr := match o.1 with
  | none => best
  | some q => match chargeR m ring f (q.1 + (P.getD 0 []).getD first 0) 0 o.2 first with
    | none => best
    | some c => better best (some (c, q.2))
def closedF (m : Mac) (ring : List Int) (P : List (List Int)) (f : Option Int) (first : Nat) (last : Row) : Option Pr := last.zipIdx.foldl (closeStep m ring P f first) none
structure Rnd where
  cost : Option Int
  labels : List Int
  numbers : List (List (List (Option Int)))
def bestRingF (m : Mac) (ring : List Int) (P : List (List Int)) (f : Option Int) : Rnd :=
  let found := (List.range m.n).foldl (fun b first => better b (closedF m ring P f first ((ringRows m ring P f first).getLastD []))) none
  ⟨costOf found, (match found with | none => [] | some p => p.2), (List.range m.n).map fun first => (ringRows m ring P f first).map fun r => r.map costOf⟩
end Ob
/-! part Ol -/
/-! Steps through short texts. -/
namespace Ob
open PySem L2
/-- what a for needs of the items -/
def ForP (F : Nat → FS) (tg : Ex) (b : Sx) (K : Dl → Mu → Prop) (R : Dt → Mu → Prop) (l : Dl) (ds : List Dt) (u1 : Mu) : Prop := ∃ I : Nat → Dl → Mu → Prop, I 0 l u1 ∧
      (∀ i l2 u2 d, ds[i]? = some d → I i l2 u2 → wpG tg d l2 fun l3 => wpS F b l3 u2 (I (i + 1)) R) ∧ ∀ l2 u2, I ds.length l2 u2 → K l2 u2
def LcP (F : Nat → FS) (m : Bool) (own : List Nat) (elt tg tt : Ex) (K : Dt → Mu → Prop) (l : Dl) (ds : List Dt) (u1 : Mu) : Prop := ds.length ≤ LIM ∧ ∃ I : Nat → List Dt → Mu → Prop, I 0 [] u1 ∧
      (∀ i acc u2 d, ds[i]? = some d → I i acc u2 → wpG tg d (wipeD l own) fun l2 => wpT F tt l2 u2 fun b u3 => (b = true → wpE F elt l2 u3 fun y u4 => I (i + 1) (acc ++ [y]) u4) ∧ (b = false → I (i + 1) acc u3)) ∧
      ∀ acc u2, I ds.length acc u2 → newK m acc u2 K
section
variable {F : Nat → FS} {l : Dl} {u : Mu}
theorem q_wpE_c {d : Dt} {K : Dt → Mu → Prop} : wpE F (.c d) l u K = (K d u) := rfl
theorem q_wpE_slot {i : Nat} {K : Dt → Mu → Prop} : wpE F (.slot i) l u K = (∃ d, l[i]? = some (some d) ∧ K d u) := rfl
theorem q_wpE_bin {op : Operator} {m : Bool} {a : Ex} {b : Ex} {K : Dt → Mu → Prop} : wpE F (.bin op m a b) l u K = (wpE F a l u fun x u1 => wpE F b l u1 fun y u2 => binK op m x y u2 K) := rfl
theorem q_wpE_neg {a : Ex} {K : Dt → Mu → Prop} : wpE F (.neg a) l u K = (wpE F a l u fun x u1 => ∃ i, x = .int i ∧ K (.int (-i)) u1) := rfl
theorem q_wpE_not {a : Ex} {K : Dt → Mu → Prop} : wpE F (.not a) l u K = (wpE F a l u fun x u1 => ∃ b, x = .bl b ∧ K (.bl (!b)) u1) := rfl
theorem q_wpE_or {a : Ex} {b : Ex} {K : Dt → Mu → Prop} : wpE F (.or_ a b) l u K = (wpE F a l u fun x u1 => ∃ t, truS u1 x = some t ∧ (t = true → K x u1) ∧ (t = false → wpE F b l u1 K)) := rfl
theorem q_wpE_and {a : Ex} {b : Ex} {K : Dt → Mu → Prop} : wpE F (.and_ a b) l u K = (wpE F a l u fun x u1 => ∃ t, truS u1 x = some t ∧ (t = false → K x u1) ∧ (t = true → wpE F b l u1 K)) := rfl
theorem q_wpE_cmp {op : CmpOp} {a : Ex} {b : Ex} {K : Dt → Mu → Prop} : wpE F (.cmp op a b) l u K = (wpE F a l u fun x u1 => wpE F b l u1 fun y u2 => ∃ r, cmpS u2 op x y = some r ∧ K (.bl r) u2) := rfl
theorem q_wpE_chain {op : CmpOp} {op2 : CmpOp} {a : Ex} {b : Ex} {c : Ex} {K : Dt → Mu → Prop} : wpE F (.chain op op2 a b c) l u K = (wpE F a l u fun x u1 => wpE F b l u1 fun y u2 => ∃ r, cmpS u2 op x y = some r ∧ (r = false → K (.bl false) u2) ∧ (r = true → wpE F c l u2 fun z u3 => ∃ r2, cmpS u3 op2 y z = some r2 ∧ K (.bl r2) u3)) := rfl
theorem q_wpE_ife {t : Ex} {a : Ex} {b : Ex} {K : Dt → Mu → Prop} : wpE F (.ife t a b) l u K = (wpT F t l u fun k u1 => (k = true → wpE F a l u1 K) ∧ (k = false → wpE F b l u1 K)) := rfl
theorem q_wpE_tup {es : Ex} {K : Dt → Mu → Prop} : wpE F (.tup es) l u K = (wpA F es l u fun ds u1 => ds.length ≤ LIM ∧ K (.tup ds) u1) := rfl
theorem q_wpE_lst {m : Bool} {es : Ex} {K : Dt → Mu → Prop} : wpE F (.lst m es) l u K = (wpA F es l u fun ds u1 => ds.length ≤ LIM ∧ newK m ds u1 K) := rfl
theorem q_wpE_ix {a : Ex} {i : Ex} {K : Dt → Mu → Prop} : wpE F (.ix a i) l u K = (wpE F a l u fun x u1 => wpE F i l u1 fun y u2 => ∃ ds k d, seqOf u2 x = some ds ∧ y = .int k ∧ atI ds k = some d ∧ K d u2) := rfl
theorem q_wpE_cut {m : Bool} {a : Ex} {lo : Ex} {hi : Ex} {K : Dt → Mu → Prop} : wpE F (.cut m a lo hi) l u K = (wpE F a l u fun x u1 => wpO F lo l u1 fun p u2 => wpO F hi l u2 fun q u3 => ∃ ds, lstOf u3 x = some ds ∧ newK m (cutD ds p q) u3 K) := rfl
theorem q_wpE_att {a : Ex} {i : Nat} {K : Dt → Mu → Prop} : wpE F (.att a i) l u K = (wpE F a l u fun x u1 => ∃ c fs d, ((x = .ins c fs ∨ ∃ p, x = .adr p ∧ get u1 p = some (.ins c fs)) ∧ fs.lookup i = some d) ∧ i < 11 ∧ K d u1) := rfl
theorem q_wpE_len {a : Ex} {K : Dt → Mu → Prop} : wpE F (.len a) l u K = (wpE F a l u fun x u1 => ∃ ds, seqOf u1 x = some ds ∧ K (.int (ds.length : Int)) u1) := rfl
theorem q_wpE_list {m : Bool} {a : Ex} {K : Dt → Mu → Prop} : wpE F (.list m a) l u K = (wpE F a l u fun x u1 => ∃ ds, seqOf u1 x = some ds ∧ newK m ds u1 K) := rfl
theorem q_wpE_tuple {a : Ex} {K : Dt → Mu → Prop} : wpE F (.tuple a) l u K = (wpE F a l u fun x u1 => ∃ ds, (x = .tup ds ∨ lstOf u1 x = some ds) ∧ K (.tup ds) u1) := rfl
theorem q_wpE_sum {a : Ex} {K : Dt → Mu → Prop} : wpE F (.sum a) l u K = (wpE F a l u fun x u1 => ∃ ds ns, lstOf u1 x = some ds ∧ intsOf ds = some ns ∧ K (.int ns.sum) u1) := rfl
theorem q_wpE_min1 {a : Ex} {K : Dt → Mu → Prop} : wpE F (.min1 a) l u K = (wpE F a l u fun x u1 => ∃ ds ns, lstOf u1 x = some ds ∧ intsOf ds = some ns ∧ ns ≠ [] ∧ ∀ k, k ∈ ns → (∀ y, y ∈ ns → k ≤ y) → K (.int k) u1) := rfl
theorem q_wpE_min2 {a : Ex} {b : Ex} {K : Dt → Mu → Prop} : wpE F (.min2 a b) l u K = (wpE F a l u fun x u1 => wpE F b l u1 fun y u2 => ∃ p q, x = prD p ∧ y = prD q ∧ K (prD (prMin p q)) u2) := rfl
theorem q_wpE_int {a : Ex} {K : Dt → Mu → Prop} : wpE F (.int a) l u K = (wpE F a l u fun x u1 => (∃ i, x = .int i ∧ K (.int i) u1) ∨ ∃ b, x = .bl b ∧ K (.int (if b then 1 else 0)) u1) := rfl
theorem q_wpE_all {a : Ex} {K : Dt → Mu → Prop} : wpE F (.all a) l u K = (wpE F a l u fun x u1 => ∃ ds bs, lstOf u1 x = some ds ∧ blsOf ds = some bs ∧ K (.bl (bs.all id)) u1) := rfl
theorem q_wpE_sset {a : Ex} {K : Dt → Mu → Prop} : wpE F (.sset a) l u K = (wpE F a l u fun x u1 => (∃ ms : List Mv, x = .lst (ms.map mvD) ∧ ms.length ≤ 12 ∧ ∀ os : List Mv, os.Nodup → (∀ z, z ∈ os ↔ z ∈ ms) → K (.lst (os.map mvD)) u1) ∨ ∃ ns : List Int, x = .lst (ns.map .int) ∧ ns.length ≤ 12 ∧ ∀ os : List Int, os.Nodup → (∀ z, z ∈ os ↔ z ∈ ns) → K (.lst (os.map .int)) u1) := rfl
theorem q_wpE_mdict {a : Ex} {K : Dt → Mu → Prop} : wpE F (.mdict a) l u K = (wpE F a l u fun x u1 => ∃ ms : List Mv, x = .lst (ms.map fun m => .tup [mvD m, .bl true]) ∧ ms.Nodup ∧ ms.length ≤ 1000 ∧ K (.keys ms) u1) := rfl
theorem q_wpE_isi {a : Ex} {ty : Nat} {K : Dt → Mu → Prop} : wpE F (.isi a ty) l u K = (wpE F a l u fun x u1 => ∃ r, isiS u1 ty x = some r ∧ K (.bl r) u1) := rfl
theorem q_wpE_pop {a : Ex} {K : Dt → Mu → Prop} : wpE F (.pop a) l u K = (wpE F a l u fun x u1 => ∃ p ds d, x = .adr p ∧ get u1 p = some (.lst (ds ++ [d])) ∧ K d (put u1 p (.lst ds))) := rfl
theorem q_wpE_app {a : Ex} {e : Ex} {K : Dt → Mu → Prop} : wpE F (.app a e) l u K = (wpE F a l u fun x u1 => ∃ p ds0, x = .adr p ∧ get u1 p = some (.lst ds0) ∧ wpE F e l u1 fun d u2 => ∃ ds, get u2 p = some (.lst ds) ∧ ds.length < LIM ∧ K .non (put u2 p (.lst (ds ++ [d])))) := rfl
theorem q_wpE_exd {a : Ex} {e : Ex} {K : Dt → Mu → Prop} : wpE F (.exd a e) l u K = (wpE F a l u fun x u1 => ∃ p ds0, x = .adr p ∧ get u1 p = some (.lst ds0) ∧ wpE F e l u1 fun y u2 => ∃ ds es, get u2 p = some (.lst ds) ∧ y = .lst es ∧ ds.length + es.length ≤ LIM ∧ K .non (put u2 p (.lst (ds ++ es)))) := rfl
theorem q_wpE_call {j : Nat} {es : Ex} {K : Dt → Mu → Prop} : wpE F (.call j es) l u K = (wpA F es l u fun ds u1 => F j ds u1 K) := rfl
theorem q_wpE_meth {c : Nat} {j : Nat} {a : Ex} {es : Ex} {K : Dt → Mu → Prop} : wpE F (.meth c j a es) l u K = (wpE F a l u fun x u1 => ∃ fs, x = .ins c fs ∧ wpA F es l u1 fun ds u2 => F j (x :: ds) u2 K) := rfl
theorem q_wpE_new {c : Nat} {j : Nat} {es : Ex} {K : Dt → Mu → Prop} : wpE F (.new c j es) l u K = (wpA F es l u fun ds u1 => ∀ p, p ∉ adrs u1 → F j (.adr p :: ds) ((p, .ins c []) :: u1) fun d u2 => d = .non ∧ ∃ fs, get u2 p = some (.ins c fs) ∧ K (.ins c fs) (del u2 p)) := rfl
theorem q_wpE_fz {a : Ex} {K : Dt → Mu → Prop} : wpE F (.fz a) l u K = (wpE F a l u fun d u1 => K (fz2 u1 d).1 (fz2 u1 d).2) := rfl
theorem q_wpE_bor {a : Ex} {K : Dt → Mu → Prop} : wpE F (.bor a) l u K = (wpE F a (l.map fun o => o.map (res u)) [] fun d _ => scalar d = true ∧ K d u) := rfl
theorem q_wpA_nil  {K : List Dt → Mu → Prop} : wpA F (.nil) l u K = (K [] u) := rfl
theorem q_wpA_cons {e : Ex} {es : Ex} {K : List Dt → Mu → Prop} : wpA F (.cons e es) l u K = (wpE F e l u fun d u1 => wpA F es l u1 fun ds u2 => K (d :: ds) u2) := rfl
theorem q_wpA_star {e : Ex} {es : Ex} {K : List Dt → Mu → Prop} : wpA F (.star e es) l u K = (wpE F e l u fun d u1 => ∃ xs, frzOf d = some xs ∧ wpA F es l u1 fun ds u2 => K (xs ++ ds) u2) := rfl
theorem q_wpT_tv {a : Ex} {K : Bool → Mu → Prop} : wpT F (.tv a) l u K = (wpE F a l u fun d u1 => ∃ t, truS u1 d = some t ∧ K t u1) := rfl
theorem q_wpT_tnot {a : Ex} {K : Bool → Mu → Prop} : wpT F (.tnot a) l u K = (wpT F a l u fun t u1 => K (!t) u1) := rfl
theorem q_wpT_tand {a : Ex} {b : Ex} {K : Bool → Mu → Prop} : wpT F (.tand a b) l u K = (wpT F a l u fun t u1 => (t = false → K false u1) ∧ (t = true → wpT F b l u1 K)) := rfl
theorem q_wpT_tor {a : Ex} {b : Ex} {K : Bool → Mu → Prop} : wpT F (.tor a b) l u K = (wpT F a l u fun t u1 => (t = true → K true u1) ∧ (t = false → wpT F b l u1 K)) := rfl
theorem q_wpT_noE  {K : Bool → Mu → Prop} : wpT F (.noE) l u K = (K true u) := rfl
theorem q_wpO_noE  {K : Option Int → Mu → Prop} : wpO F (.noE) l u K = (K none u) := rfl
theorem q_wpO_tv {a : Ex} {K : Option Int → Mu → Prop} : wpO F (.tv a) l u K = (wpE F a l u fun d u1 => ∃ i, d = .int i ∧ K (some i) u1) := rfl
theorem q_wpI_iSeq {a : Ex} {K : List Dt → Mu → Prop} : wpI F (.iSeq a) l u K = (wpE F a l u fun d u1 => ∃ ds, frzOf d = some ds ∧ K ds u1) := rfl
theorem q_wpI_iRan {a : Ex} {K : List Dt → Mu → Prop} : wpI F (.iRan a) l u K = (wpE F a l u fun d u1 => ∃ i, d = .int i ∧ 0 ≤ i ∧ i ≤ 1000000 ∧ K ((List.range i.toNat).map fun k => .int (k : Nat)) u1) := rfl
theorem q_wpI_iRan2 {a : Ex} {b : Ex} {K : List Dt → Mu → Prop} : wpI F (.iRan2 a b) l u K = (wpE F a l u fun d u1 => wpE F b l u1 fun e u2 => ∃ i j, d = .int i ∧ e = .int j ∧ 0 ≤ i ∧ i ≤ 1000000 ∧ 0 ≤ j ∧ j ≤ 1000000 ∧ K ((List.range (j - i).toNat).map fun k => .int (i + (k : Nat))) u2) := rfl
theorem q_wpI_iEnum {a : Ex} {K : List Dt → Mu → Prop} : wpI F (.iEnum a) l u K = (wpE F a l u fun d u1 => ∃ ds, d = .lst ds ∧ K (ds.mapIdx fun i d => .tup [.int (i : Nat), d]) u1) := rfl
theorem q_wpI_iZip {a : Ex} {b : Ex} {K : List Dt → Mu → Prop} : wpI F (.iZip a b) l u K = (wpE F a l u fun d u1 => wpE F b l u1 fun e u2 => ∃ ds es, d = .tup ds ∧ e = .tup es ∧ K (List.zipWith (fun x y => .tup [x, y]) ds es) u2) := rfl
theorem q_wpI_iRev {a : Ex} {K : List Dt → Mu → Prop} : wpI F (.iRev a) l u K = (wpE F a l u fun d u1 => ∃ ds, d = .tup ds ∧ K ds.reverse u1) := rfl
section
variable {K : Dl → Mu → Prop} {R : Dt → Mu → Prop}
theorem skip_i (h : K l u) : wpS F .skip l u K R := h
theorem seq_i {a b : Sx} (h : wpS F a l u (fun l1 u1 => wpS F b l1 u1 K R) R) : wpS F (.seq a b) l u K R := h
theorem asg_i {tg e : Ex} (h : wpE F e l u fun d u1 => wpG tg d l fun l1 => K l1 u1) : wpS F (.asg tg e) l u K R := h
theorem drop_i {e : Ex} (h : wpE F e l u fun _ u1 => K l u1) : wpS F (.drop e) l u K R := h
theorem ret_i {e : Ex} (h : wpE F e l u R) : wpS F (.ret e) l u K R := h
theorem iff_i {t : Ex} {a b : Sx} (h : wpT F t l u fun k u1 => (k = true → wpS F a l u1 K R) ∧ (k = false → wpS F b l u1 K R)) : wpS F (.iff t a b) l u K R := h
theorem seti_i {a i e : Ex} (h : wpE F e l u fun d u1 => wpE F a l u1 fun x u2 => wpE F i l u2 fun y u3 => ∃ p ds k j, x = .adr p ∧ get u3 p = some (.lst ds) ∧ y = .int k ∧ ixN ds.length k = some j ∧ K l (put u3 p (.lst (ds.set j d)))) : wpS F (.seti a i e) l u K R := h
theorem augi_i {a i e : Ex} (h : wpE F a l u fun x u1 => wpE F i l u1 fun y u2 => ∃ p ds k j n, x = .adr p ∧ get u2 p = some (.lst ds) ∧ y = .int k ∧ ixN ds.length k = some j ∧ ds[j]? = some (.int n) ∧
      wpE F e l u2 fun d u3 => ∃ n2, d = .int n2 ∧ u3 = u2 ∧ K l (put u3 p (.lst (ds.set j (.int (n + n2)))))) : wpS F (.augi a i e) l u K R := h
theorem seta_i {a e : Ex} {i : Nat} (h : wpE F e l u fun d u1 => wpE F a l u1 fun x u2 => ∃ p c fs, x = .adr p ∧ get u2 p = some (.ins c fs) ∧ (fs.map (·.1)).contains i = false ∧ fs.length ≤ 20 ∧ i < 11 ∧ K l (put u2 p (.ins c (fs ++ [(i, d)])))) : wpS F (.seta a i e) l u K R := h
theorem frz_i {i : Nat} (h : ∃ d, l[i]? = some (some d) ∧ K (l.set i (some (fz2 u d).1)) (fz2 u d).2) : wpS F (.frz i) l u K R := h
theorem forr_i {tg it : Ex} {b : Sx} (h : wpI F it l u fun ds u1 => ForP F tg b K R l ds u1) : wpS F (.forr tg it b) l u K R := h
theorem while_i {t : Ex} {b : Sx} (I : Nat → Dl → Mu → Prop) (h0 : ∃ n, I n l u) (h : ∀ n l2 u2, I n l2 u2 → wpT F t l2 u2 fun k u3 =>
      (k = true → wpS F b l2 u3 (fun l4 u4 => ∃ n', n' < n ∧ I n' l4 u4) R) ∧ (k = false → K l2 u3)) : wpS F (.whil t b) l u K R := ⟨I, h0, h⟩
/-- a for with what holds after i turns -/
theorem for_I {α : Type} {xs : List α} {enc : α → Dt} {tg : Ex} {body : Sx} (St : Nat → Dl → Mu → Prop) (h0 : St 0 l u)
    (hs : ∀ i x l2 u2, xs[i]? = some x → St i l2 u2 → wpG tg (enc x) l2 fun l3 => wpS F body l3 u2 (St (i + 1)) R) (hd : ∀ l2 u2, St xs.length l2 u2 → K l2 u2) :
    ForP F tg body K R l (xs.map enc) u := by
  refine ⟨St, h0, fun i l2 u2 d h1 h2 => ?_, fun l2 u2 h => hd l2 u2 (by rw [List.length_map] at h; exact h)⟩
  rw [List.getElem?_map] at h1
  cases e : xs[i]? with
  | none =>
    rw [e] at h1
    cases h1
  | some x =>
    rw [e] at h1
    cases h1
    exact hs i x l2 u2 e h2
/-- .. as a fold -/
theorem for_f {α β : Type} {xs : List α} {enc : α → Dt} {step : β → α → β} {b0 : β} {tg : Ex} {body : Sx} (St : β → Dl → Mu → Prop) (h0 : St b0 l u)
    (hs : ∀ i x l2 u2, xs[i]? = some x → St ((xs.take i).foldl step b0) l2 u2 → wpG tg (enc x) l2 fun l3 => wpS F body l3 u2 (St (step ((xs.take i).foldl step b0) x)) R) (hd : ∀ l2 u2, St (xs.foldl step b0) l2 u2 → K l2 u2) :
    ForP F tg body K R l (xs.map enc) u := for_fold St h0 hs hd
end
section
variable {K : Dt → Mu → Prop}
theorem e_lc {m : Bool} {own : List Nat} {elt tg it tt : Ex} : wpE F (.lc m own elt tg it tt) l u K = wpI F it l u fun ds u1 => LcP F m own elt tg tt K l ds u1 := rfl
/-- a comprehension that changes nothing -/
theorem lc_f {α : Type} {xs : List α} {enc : α → Dt} (g : α → Option Dt) {own : List Nat} {m : Bool} {elt tg tt : Ex} (hn : xs.length ≤ LIM)
    (h : ∀ x, x ∈ xs → ∀ J : Option Dt → Prop, J (g x) → wpG tg (enc x) (wipeD l own) fun l2 => wpT F tt l2 u fun b u3 => (b = true → wpE F elt l2 u3 fun y u4 => u4 = u ∧ J (some y)) ∧ (b = false → u3 = u ∧ J none))
    (k : newK m (xs.filterMap g) u K) : LcP F m own elt tg tt K l (xs.map enc) u := lc_pure hn h k
/-- .. with no test -/
theorem lc_m {α : Type} {xs : List α} {enc : α → Dt} (g : α → Dt) {own : List Nat} {m : Bool} {elt tg : Ex} (hn : xs.length ≤ LIM)
    (h : ∀ x, x ∈ xs → ∀ J : Dt → Prop, J (g x) → wpG tg (enc x) (wipeD l own) fun l2 => wpE F elt l2 u fun y u4 => u4 = u ∧ J y)
    (k : newK m (xs.map g) u K) : LcP F m own elt tg .noE K l (xs.map enc) u := by
  refine lc_f (fun x => some (g x)) hn (fun x hx J hj => ?_) (by rw [fm_some]; exact k)
  have q := h x hx (fun y => J (some y)) hj
  have e : (fun l2 : Dl => wpT F .noE l2 u fun b u3 => (b = true → wpE F elt l2 u3 fun y u4 => u4 = u ∧ J (some y)) ∧ (b = false → u3 = u ∧ J none)) = fun l2 => wpE F elt l2 u fun y u4 => u4 = u ∧ J (some y) := by
    funext l2
    show ((true = true → _) ∧ (true = false → _)) = _
    simp
  rw [e]
  exact q
theorem lc_I {α : Type} {xs : List α} {enc : α → Dt} {own : List Nat} {m : Bool} {elt tg tt : Ex} (I : Nat → List Dt → Mu → Prop) (h0 : I 0 [] u) (hn : xs.length ≤ LIM)
    (h : ∀ i x acc u2, xs[i]? = some x → I i acc u2 → wpG tg (enc x) (wipeD l own) fun l2 => wpT F tt l2 u2 fun b u3 => (b = true → wpE F elt l2 u3 fun y u4 => I (i + 1) (acc ++ [y]) u4) ∧ (b = false → I (i + 1) acc u3))
    (k : ∀ acc u2, I xs.length acc u2 → newK m acc u2 K) : LcP F m own elt tg tt K l (xs.map enc) u := by
  refine ⟨by rw [List.length_map]; exact hn, I, h0, fun i acc u2 d h1 h2 => ?_, fun acc u2 h => k acc u2 (by rw [List.length_map] at h; exact h)⟩
  rw [List.getElem?_map] at h1
  cases e : xs[i]? with
  | none =>
    rw [e] at h1
    cases h1
  | some x =>
    rw [e] at h1
    cases h1
    exact h i x acc u2 e h2
end
end
theorem lim_0 : (0 ≤ LIM) = True := eq_true (by decide)
theorem lim_1 : (1 ≤ LIM) = True := eq_true (by decide)
theorem lim_2 : (2 ≤ LIM) = True := eq_true (by decide)
theorem lim_3 : (3 ≤ LIM) = True := eq_true (by decide)
theorem lim_4 : (4 ≤ LIM) = True := eq_true (by decide)
theorem lim_5 : (5 ≤ LIM) = True := eq_true (by decide)
theorem lim_6 : (6 ≤ LIM) = True := eq_true (by decide)
theorem lim_7 : (7 ≤ LIM) = True := eq_true (by decide)
theorem oD_n : oD none = .non := rfl
theorem oD_s (p : Pr) : oD (some p) = prD p := rfl
theorem oi_n : oiD none = .non := rfl
theorem oi_s (p : Int) : oiD (some p) = .int p := rfl
/-- a field read -/
def attK (u : Mu) (x : Dt) (i : Nat) (K : Dt → Mu → Prop) : Prop := ∃ c fs d, ((x = .ins c fs ∨ ∃ p, x = .adr p ∧ get u p = some (.ins c fs)) ∧ fs.lookup i = some d) ∧ i < 11 ∧ K d u
theorem attK_ins {u : Mu} {c : Nat} {fs : List (Nat × Dt)} {i : Nat} {d : Dt} {K : Dt → Mu → Prop} (h : fs.lookup i = some d) (hi : i < 11) : attK u (.ins c fs) i K = K d u := by
  refine propext ⟨?_, fun k => ⟨c, fs, d, ⟨.inl rfl, h⟩, hi, k⟩⟩
  rintro ⟨c2, fs2, d2, ⟨h1 | ⟨p, h1, _⟩, h2⟩, _, k⟩
  · cases h1
    rw [h] at h2
    cases h2
    exact k
  · cases h1
def pD (P : List (List Int)) : Dt := .lst (P.map fun r => .lst (r.map .int))
def rkD (m : Mac) (P : Dt) (f : Dt) : Dt := .ins 2 [(7, macD m), (2, .keys m.mv), (8, P), (9, f)]
def rgD (m : Mac) (ring P f : Dt) : Dt := .ins 3 [(7, macD m), (2, .keys m.mv), (10, ring), (8, P), (9, f)]
section
variable {u : Mu} {K : Dt → Mu → Prop}
theorem am_1 (m : Mac) : attK u (macD m) 1 K = K (.int m.n) u := attK_ins rfl (by decide)
theorem am_2 (m : Mac) : attK u (macD m) 2 K = K (.tup (m.mv.map mvD)) u := attK_ins rfl (by decide)
theorem am_3 (m : Mac) : attK u (macD m) 3 K = K (.tup (m.en.map .int)) u := attK_ins rfl (by decide)
theorem ar_7 (m : Mac) (P f : Dt) : attK u (rkD m P f) 7 K = K (macD m) u := attK_ins rfl (by decide)
theorem ar_2 (m : Mac) (P f : Dt) : attK u (rkD m P f) 2 K = K (.keys m.mv) u := attK_ins rfl (by decide)
theorem ar_8 (m : Mac) (P f : Dt) : attK u (rkD m P f) 8 K = K P u := attK_ins rfl (by decide)
theorem ar_9 (m : Mac) (P f : Dt) : attK u (rkD m P f) 9 K = K f u := attK_ins rfl (by decide)
theorem ag_7 (m : Mac) (g P f : Dt) : attK u (rgD m g P f) 7 K = K (macD m) u := attK_ins rfl (by decide)
theorem ag_2 (m : Mac) (g P f : Dt) : attK u (rgD m g P f) 2 K = K (.keys m.mv) u := attK_ins rfl (by decide)
theorem ag_10 (m : Mac) (g P f : Dt) : attK u (rgD m g P f) 10 K = K g u := attK_ins rfl (by decide)
theorem ag_8 (m : Mac) (g P f : Dt) : attK u (rgD m g P f) 8 K = K P u := attK_ins rfl (by decide)
theorem ag_9 (m : Mac) (g P f : Dt) : attK u (rgD m g P f) 9 K = K f u := attK_ins rfl (by decide)
theorem ck_n (a : Int) (cs : List Int) (t : Int) (ms : List Mv) : cmpS u .NotIn (.tup [.int a, .tup (cs.map .int), .int t]) (.keys ms) = some (!decide ((a, cs, t) ∈ ms)) := cm_ink (a, cs, t) ms
theorem ck_n1 (a b : Int) (t : Int) (ms : List Mv) : cmpS u .NotIn (.tup [.int a, .tup [.int b], .int t]) (.keys ms) = some (!decide ((a, [b], t) ∈ ms)) := cm_ink (a, [b], t) ms
theorem cl_i (a : Int) (cs : List Int) (t : Int) (ms : List Mv) : cmpS u .In (.tup [.int a, .tup (cs.map .int), .int t]) (.lst (ms.map mvD)) = some (decide ((a, cs, t) ∈ ms)) := cm_inm (a, cs, t) ms
theorem cl_i1 (a b : Int) (t : Int) (ms : List Mv) : cmpS u .In (.tup [.int a, .tup [.int b], .int t]) (.lst (ms.map mvD)) = some (decide ((a, [b], t) ∈ ms)) := cm_inm (a, [b], t) ms
theorem cl_n1 (a b : Int) (t : Int) (ms : List Mv) : cmpS u .NotIn (.tup [.int a, .tup [.int b], .int t]) (.lst (ms.map mvD)) = some (!decide ((a, [b], t) ∈ ms)) := cm_ninm (a, [b], t) ms
theorem ci_t (i : Int) (ns : List Int) : cmpS u .In (.int i) (.tup (ns.map .int)) = some (decide (i ∈ ns)) := cm_in i rfl
theorem ci_l (i : Int) (ns : List Int) : cmpS u .In (.int i) (.lst (ns.map .int)) = some (decide (i ∈ ns)) := cm_in i rfl
theorem cn_t (i : Int) (ns : List Int) : cmpS u .NotIn (.int i) (.tup (ns.map .int)) = some (!decide (i ∈ ns)) := cm_nin i rfl
theorem cn_l (i : Int) (ns : List Int) : cmpS u .NotIn (.int i) (.lst (ns.map .int)) = some (!decide (i ∈ ns)) := cm_nin i rfl
theorem or_b (b : Bool) (X : Prop) : ((b = true → K (.bl b) u) ∧ (b = false → X)) = ((b = true → K (.bl true) u) ∧ (b = false → X)) := by cases b <;> simp
end
theorem q_att {F : Nat → FS} {l : Dl} {u : Mu} {a : Ex} {i : Nat} {K : Dt → Mu → Prop} : wpE F (.att a i) l u K = (wpE F a l u fun x u1 => attK u1 x i K) := rfl
theorem map_take {α β : Type} {f : α → β} {xs : List α} {i : Nat} {x : α} (h : xs[i]? = some x) : (xs.take (i + 1)).map f = (xs.take i).map f ++ [f x] := by
  rw [List.take_add_one, h, List.map_append]
  rfl
theorem range_get {n i x : Nat} (h : (List.range n)[i]? = some x) : x = i ∧ i < n := by
  rw [List.getElem?_eq_some_iff] at h
  obtain ⟨h1, h2⟩ := h
  rw [List.length_range] at h1
  rw [List.getElem_range] at h2
  exact ⟨h2.symm, h1⟩
theorem blD_eq (ls : List Int) (c : Int) (row : List Int) : blD (ls, c, row) = .tup [.tup (ls.map .int), .tup [.int c, .lst (row.map .int)]] := rfl
theorem mvD_eq (a : Int) (cs : List Int) (t : Int) : mvD (a, cs, t) = .tup [.int a, .tup (cs.map .int), .int t] := rfl
theorem ndD_eq (a : Int) (cs : List Nat) : ndD (a, cs) = .tup [.int a, .tup (cs.map natD)] := rfl
theorem sq_pD {u : Mu} (P : List (List Int)) : seqOf u (pD P) = some (P.map fun r => .lst (r.map .int)) := rfl
theorem at_P {P : List (List Int)} {i : Nat} {r : List Int} (h : P[i]? = some r) : atI (P.map fun r => Dt.lst (r.map .int)) (i : Int) = some (.lst (r.map .int)) := at_map _ h
theorem at_i {r : List Int} {i : Nat} (h : i < r.length) : atI (r.map Dt.int) (i : Int) = some (.int (r.getD i 0)) := by
  have h2 : r[i]? = some (r.getD i 0) := by
    rw [List.getD_eq_getElem?_getD, List.getElem?_eq_getElem h]
    rfl
  exact at_map _ h2
theorem keepK {K : Dt → Mu → Prop} {d : Dt} {u : Mu} (k : K d u) : ∃ u2 : Mu, u2.Sublist u ∧ K d u2 := ⟨u, List.Sublist.refl u, k⟩
theorem dropK {K : Dt → Mu → Prop} {d : Dt} {u : Mu} {p : Addr} {c : Cell} (k : K d u) : ∃ u2 : Mu, u2.Sublist ((p, c) :: u) ∧ K d u2 := ⟨u, List.sublist_cons_self _ _, k⟩
theorem st0_1 (a : Dt) (n : Nat) : st0 n [a] = some a :: List.replicate (n - 1) none := rfl
theorem st0_2 (a b : Dt) (n : Nat) : st0 n [a, b] = some a :: some b :: List.replicate (n - 2) none := rfl
theorem tN (n : Nat) : ((n : Int)).toNat = n := rfl
end Ob
/-! part Wa -/
namespace Ob
open PySem L2
local macro_rules | `(tactic| walk_at "wp") => `(tactic| simp only [q_wpE_c, q_wpE_slot, q_wpE_bin, q_wpE_neg, q_wpE_not, q_wpE_or, q_wpE_and, q_wpE_cmp, q_wpE_chain, q_wpE_ife, q_wpE_tup, q_wpE_lst, q_wpE_ix, q_wpE_cut, q_wpE_att, q_wpE_len, q_wpE_list, q_wpE_tuple, q_wpE_sum, q_wpE_min1, q_wpE_min2, q_wpE_int, q_wpE_all, q_wpE_sset, q_wpE_mdict, q_wpE_isi, q_wpE_pop, q_wpE_app, q_wpE_exd, q_wpE_call, q_wpE_meth, q_wpE_new, q_wpE_fz, q_wpE_bor, q_wpA_nil, q_wpA_cons, q_wpA_star, q_wpT_tv, q_wpT_tnot, q_wpT_tand, q_wpT_tor, q_wpT_noE, q_wpO_noE, q_wpO_tv, q_wpI_iSeq, q_wpI_iRan, q_wpI_iRan2, q_wpI_iEnum, q_wpI_iZip, q_wpI_iRev, e_lc, wpG, wpG.wpGs, wipeD, List.map_cons, List.map_nil, List.append_nil, List.cons_append, List.nil_append, List.replicate, List.length_cons, List.length_nil, List.length_map, Nat.reduceSub, Nat.reduceAdd, tN, enum_map,
  List.set_cons_zero, List.set_cons_succ, List.getElem?_cons_zero, List.getElem?_cons_succ, Option.some.injEq, Dt.int.injEq, Dt.bl.injEq, Dt.lst.injEq, Dt.tup.injEq, Dt.ins.injEq, Dt.adr.injEq, exists_eq_left', exists_eq_left, exists_and_left, exists_eq', exists_eq, true_and, and_true, List.cons.injEq, and_self, and_assoc,
  bk_addi, bk_sub, bk_mul, bk_mod, bk_div, bk_pow, bk_cat, bk_rep, nk_f, nk_t, sq_lst, sq_tup, sq_pr, ls_lst, fz_lst, fz_tup, ts_non, ts_bl, ts_pr, cm_lt, cm_le, cm_gt, cm_ge, cm_eq, cm_ne, cm_eqb, cm_neb, cm_is, cm_isn, in_non, in_int, in_pr, in_o, in_oi, gt_hd, pt_hd, dl_hd,
  at_0, at_1, at_2, at_3, at_4, Bool.not_true, Bool.not_false, Bool.true_eq_false, Bool.false_eq_true, false_imp_iff, true_imp_iff, reduceCtorEq, forall_const, Nat.reduceLT, Nat.reduceLeDiff, eq_self, forall_eq', forall_eq])
local macro_rules | `(tactic| walk_at "go") => `(tactic| repeat (first | refine seq_i ?_ | (refine asg_i ?_; try walk_at "wp") | (refine drop_i ?_; try walk_at "wp") | (refine ret_i ?_; try walk_at "wp") | (refine forr_i ?_; try walk_at "wp") | (refine iff_i ?_; try walk_at "wp") | (refine seti_i ?_; try walk_at "wp") | (refine augi_i ?_; try walk_at "wp") | (refine seta_i ?_; try walk_at "wp") | refine skip_i ?_))
/-! Walks: the small defs. -/


/-! ### better, charged, cost_of -/
def S_better : FS := fun ds u K => ∃ a b : Option Pr, ds = [oD a, oD b] ∧ K (oD (better a b)) u
theorem d_better (F : Nat → FS) : Does F 2 2 b_better S_better := by
  rintro ds u K ⟨a, b, rfl, k⟩
  refine ⟨rfl, ?_⟩
  have k := keepK k
  unfold b_better
  cases a <;> cases b <;> simp only [oD] at k ⊢ <;> simp only [st0, List.map_cons, List.map_nil] <;> walk_at "go"
  · exact k
  · exact k
  · exact k
  · exact ⟨_, rfl, _, rfl, k⟩
def S_charged : FS := fun ds u K => ∃ (c : Int) (o : Bool) (f : Option Int), ds = [.int c, .bl o, oiD f] ∧ K (oiD (charged c o f)) u
theorem d_charged (F : Nat → FS) : Does F 3 3 b_charged S_charged := by
  rintro ds u K ⟨c, o, f, rfl, k⟩
  refine ⟨rfl, ?_⟩
  have k := keepK k
  unfold b_charged
  cases o <;> cases f <;> simp only [charged, oiD, Option.map] at k ⊢ <;> simp only [st0, List.map_cons, List.map_nil] <;> walk_at "go" <;> exact k
def S_cost_of : FS := fun ds u K => ∃ p : Option Pr, ds = [oD p] ∧ K (oiD (costOf p)) u
theorem d_cost_of (F : Nat → FS) : Does F 1 1 b_cost_of S_cost_of := by
  rintro ds u K ⟨p, rfl, k⟩
  refine ⟨rfl, ?_⟩
  have k := keepK k
  unfold b_cost_of
  cases p <;> simp only [costOf, oiD, oD, Option.map] at k ⊢ <;> simp only [st0, List.map_cons, List.map_nil] <;> walk_at "go"
  · exact k
  · exact k
end Ob
/-! part Wb -/
namespace Ob
open PySem L2
local macro_rules | `(tactic| walk_at "wp") => `(tactic| simp only [q_wpE_c, q_wpE_slot, q_wpE_bin, q_wpE_neg, q_wpE_not, q_wpE_or, q_wpE_and, q_wpE_cmp, q_wpE_chain, q_wpE_ife, q_wpE_tup, q_wpE_lst, q_wpE_ix, q_wpE_cut, q_wpE_att, q_wpE_len, q_wpE_list, q_wpE_tuple, q_wpE_sum, q_wpE_min1, q_wpE_min2, q_wpE_int, q_wpE_all, q_wpE_sset, q_wpE_mdict, q_wpE_isi, q_wpE_pop, q_wpE_app, q_wpE_exd, q_wpE_call, q_wpE_meth, q_wpE_new, q_wpE_fz, q_wpE_bor, q_wpA_nil, q_wpA_cons, q_wpA_star, q_wpT_tv, q_wpT_tnot, q_wpT_tand, q_wpT_tor, q_wpT_noE, q_wpO_noE, q_wpO_tv, q_wpI_iSeq, q_wpI_iRan, q_wpI_iRan2, q_wpI_iEnum, q_wpI_iZip, q_wpI_iRev, e_lc, wpG, wpG.wpGs, wipeD, List.map_cons, List.map_nil, List.append_nil, List.cons_append, List.nil_append, List.replicate, List.length_cons, List.length_nil, List.length_map, Nat.reduceSub, Nat.reduceAdd, tN, enum_map,
  List.set_cons_zero, List.set_cons_succ, List.getElem?_cons_zero, List.getElem?_cons_succ, Option.some.injEq, Dt.int.injEq, Dt.bl.injEq, Dt.lst.injEq, Dt.tup.injEq, Dt.ins.injEq, Dt.adr.injEq, Cell.lst.injEq, Cell.ins.injEq, exists_eq_right, exists_eq_right', Prod.mk.injEq, exists_eq_left', exists_eq_left, exists_and_left, exists_eq', exists_eq, true_and, and_true, List.cons.injEq, and_self, and_assoc,
  bk_addi, bk_sub, bk_mul, bk_mod, bk_div, bk_pow, bk_cat, bk_rep, nk_f, nk_t, sq_lst, sq_tup, sq_pr, ls_lst, fz_lst, fz_tup, ts_non, ts_bl, ts_pr, cm_lt, cm_le, cm_gt, cm_ge, cm_eq, cm_ne, cm_eqb, cm_neb, cm_is, cm_isn, in_non, in_int, in_pr, in_o, in_oi, gt_hd, pt_hd, dl_hd,
  at_0, at_1, at_2, at_3, at_4, oD_n, oD_s, oi_n, oi_s, Option.isNone_none, Option.isNone_some, lim_0, lim_1, lim_2, lim_3, lim_4, lim_5, lim_6, lim_7, Bool.not_true, Bool.not_false, Bool.true_eq_false, Bool.false_eq_true, false_imp_iff, true_imp_iff, reduceCtorEq, forall_const, Nat.reduceLT, Nat.reduceLeDiff, eq_self, forall_eq', forall_eq])
local macro_rules | `(tactic| walk_at "go") => `(tactic| (try walk_at "wp"); repeat (first | refine seq_i ?_ | (refine asg_i ?_; try walk_at "wp") | (refine drop_i ?_; try walk_at "wp") | (refine ret_i ?_; try walk_at "wp") | (refine forr_i ?_; try walk_at "wp") | (refine iff_i ?_; try walk_at "wp") | (refine seti_i ?_; try walk_at "wp") | (refine augi_i ?_; try walk_at "wp") | (refine seta_i ?_; try walk_at "wp") | refine skip_i ?_))
/-! Walks: below_of, a person's row. -/
def S_below_of : FS := fun ds u K => ∃ (cs : List Nat) (d : Dt) (done : List Row), ds = [.tup (cs.map natD), d] ∧ seqOf u d = some (done.map rowD) ∧ (∀ p, d = .adr p → p ∈ adrs u) ∧ (∀ c ∈ cs, c < done.length) ∧ cs.length ≤ 2 ∧ (∀ r ∈ done, r.length ≤ 8) ∧ (∀ r ∈ done, ∀ q, some q ∈ r → q.2.length ≤ 100) ∧ K (.lst ((belowOf cs done).map blD)) u
theorem belowStep_len {done : List Row} (h8 : ∀ r ∈ done, r.length ≤ 8) (found : List Bl) (c : Nat) : (belowStep done found c).length ≤ found.length * 8 := by
  unfold belowStep
  have hr : (done.getD c []).length ≤ 8 := by
    rw [List.getD_eq_getElem?_getD]
    cases e : done[c]? with
    | none => exact Nat.zero_le _
    | some r => exact h8 r (List.mem_of_getElem? e)
  induction found with
  | nil => simp
  | cons x xs ih =>
    rw [List.flatMap_cons, List.length_append, List.length_cons]
    have h1 : ((done.getD c []).zipIdx.filterMap (belowOne x)).length ≤ 8 := Nat.le_trans (List.length_filterMap_le _ _) (by rw [List.length_zipIdx]; exact hr)
    have h2 : (xs.length + 1) * 8 = xs.length * 8 + 8 := by omega
    omega
theorem below_len {done : List Row} (h8 : ∀ r ∈ done, r.length ≤ 8) : ∀ (cs : List Nat) (f0 : List Bl), (cs.foldl (belowStep done) f0).length ≤ f0.length * 8 ^ cs.length
  | [], f0 => by simp
  | c :: cs, f0 => by
    have h1 := below_len h8 cs (belowStep done f0 c)
    have h2 := belowStep_len h8 f0 c
    rw [List.foldl_cons, List.length_cons, Nat.pow_succ]
    refine Nat.le_trans h1 ?_
    rw [Nat.mul_comm (8 ^ cs.length) 8, ← Nat.mul_assoc]
    exact Nat.mul_le_mul_right _ h2
theorem flat_take {α β : Type} {f : α → List β} {xs : List α} {i : Nat} {x : α} (h : xs[i]? = some x) : (xs.take (i + 1)).flatMap f = (xs.take i).flatMap f ++ f x := by
  rw [List.take_add_one, h, List.flatMap_append]
  simp
theorem fm_take {α β : Type} {f : α → Option β} {xs : List α} {i : Nat} {x : α} (h : xs[i]? = some x) : (xs.take (i + 1)).filterMap f = (xs.take i).filterMap f ++ (f x).toList := by
  rw [List.take_add_one, h, List.filterMap_append]
  cases e : f x <;> simp [e]
theorem flat_len {α β : Type} {f : α → List β} {xs : List α} (n : Nat) (h : ∀ x, (f x).length ≤ n) : (xs.flatMap f).length ≤ xs.length * n := by
  induction xs with
  | nil => simp
  | cons x xs ih =>
    rw [List.flatMap_cons, List.length_append, List.length_cons, Nat.add_mul]
    have := h x
    omega
theorem below_small {done : List Row} (hq : ∀ r ∈ done, ∀ q, some q ∈ r → q.2.length ≤ 100) : ∀ (cs : List Nat) (f0 : List Bl) (a b : Nat), (∀ x ∈ f0, x.1.length ≤ a ∧ x.2.2.length ≤ b) → ∀ x ∈ cs.foldl (belowStep done) f0, x.1.length ≤ a + cs.length ∧ x.2.2.length ≤ b + cs.length * 100
  | [], f0, a, b, h, x, hx => by
    have := h x hx
    simp
    omega
  | c :: cs, f0, a, b, h, x, hx => by
    have h1 := below_small hq cs (belowStep done f0 c) (a + 1) (b + 100) (fun y hy => by
      unfold belowStep at hy
      rw [List.mem_flatMap] at hy
      obtain ⟨z, hz, hy⟩ := hy
      rw [List.mem_filterMap] at hy
      obtain ⟨w, hw, hy⟩ := hy
      have hz2 := h z hz
      obtain ⟨w1, w2⟩ := w
      have hm := List.fst_mem_of_mem_zipIdx hw
      cases w1 with
      | none => cases hy
      | some q =>
        have e : y = (z.1 ++ [(w2 : Int)], (z.2.1 + q.1, z.2.2 ++ q.2)) := (Option.some.inj hy).symm
        have hd : done.getD c [] ∈ done := by
          rw [List.getD_eq_getElem?_getD] at hm ⊢
          cases e2 : done[c]? with
          | none =>
            rw [e2] at hm
            cases hm
          | some r => exact List.mem_of_getElem? e2
        have h3 := hq _ hd q hm
        rw [e]
        simp
        omega) x hx
    rw [List.length_cons]
    omega
theorem d_below_of (F : Nat → FS) : Does F 10 2 b_below_of S_below_of := by
  rintro ds u K ⟨cs, d, done, rfl, hd, hda, hcs, hc2, h8, hq8, k⟩
  refine ⟨rfl, ?_⟩
  have k := keepK k
  rw [st0_2]
  unfold b_below_of
  walk_at "go"
  refine for_f (xs := cs) (enc := natD) (step := belowStep done) (b0 := [([], (0, []))]) (fun found l2 u2 => u2 = u ∧ ∃ a b c e g h j, l2 = [some (.tup (cs.map natD)), some d, some (.lst (found.map blD)), a, b, c, e, g, h, j]) ⟨rfl, _, _, _, _, _, _, _, rfl⟩ ?_ ?_
  · rintro i x l2 u2 hx ⟨rfl, a, b, c, e, g, h, j, rfl⟩
    walk_at "wp"
    walk_at "go"
    intro p hp
    have hlen : ((cs.take i).foldl (belowStep done) [([], (0, []))]).length ≤ 64 := by
      have h1 := below_len h8 (cs.take i) [([], (0, []))]
      have h2 : (cs.take i).length ≤ 2 := by
        rw [List.length_take]
        omega
      have h3 : 8 ^ (cs.take i).length ≤ 8 ^ 2 := Nat.pow_le_pow_right (by decide) h2
      simp only [List.length_cons, List.length_nil] at h1
      omega
    have hsm := below_small hq8 (cs.take i) [([], (0, []))] 0 0 (by simp)
    rw [List.length_take] at hsm
    generalize hfd : (cs.take i).foldl (belowStep done) [([], (0, []))] = found at hlen hsm ⊢
    have hxl : x < done.length := hcs x (List.mem_of_getElem? hx)
    have hrow : done[x]? = some done[x] := List.getElem?_eq_getElem hxl
    have hr8 : done[x].length ≤ 8 := h8 _ (List.getElem_mem hxl)
    have hsd : ∀ c : Cell, seqOf ((p, c) :: u2) d = some (done.map rowD) := by
      intro c
      cases d with
      | adr q =>
        have hq := hda q rfl
        have ne : p ≠ q := fun e => hp (by rw [e]; exact hq)
        show (match get ((p, c) :: u2) q with
          | some (.lst ds) => some ds
          | _ => none) = _
        rw [gt_tl _ ne]
        exact hd
      | _ => exact hd
    have hfm : ∀ y : Bl, (done[x].zipIdx.filterMap (belowOne y)).length ≤ 8 := fun y => Nat.le_trans (List.length_filterMap_le _ _) (by rw [List.length_zipIdx]; exact hr8)
    walk_at "go"
    refine for_I (F := F) (xs := found) (enc := blD) (fun i2 l2 u3 => u3 = (p, .lst (((found.take i2).flatMap fun y => done[x].zipIdx.filterMap (belowOne y)).map blD)) :: u2 ∧ ∃ c e g h j, l2 = [some (.tup (cs.map natD)), some d, some (.lst (found.map blD)), some (natD x), some (.adr p), c, e, g, h, j]) ⟨rfl, _, _, _, _, _, rfl⟩ ?_ ?_
    · rintro i2 y l3 u3 hy ⟨rfl, c, e, g, h, j, rfl⟩
      have hacc : ((found.take i2).flatMap fun y => done[x].zipIdx.filterMap (belowOne y)).length ≤ 512 := by
        have h1 := flat_len (f := fun y => done[x].zipIdx.filterMap (belowOne y)) (xs := found.take i2) 8 hfm
        rw [List.length_take] at h1
        omega
      rw [flat_take hy]
      generalize ((found.take i2).flatMap fun y => done[x].zipIdx.filterMap (belowOne y)) = acc at hacc ⊢
      have hys := hsm y (List.mem_of_getElem? hy)
      obtain ⟨ls, cost, row⟩ := y
      simp only at hys
      unfold blD
      simp only [prD]
      walk_at "wp"
      walk_at "go"
      rw [hsd]
      walk_at "wp"
      refine ⟨_, at_map rowD hrow, _, rfl, ?_⟩
      rw [enum_map]
      refine for_I (F := F) (xs := done[x].zipIdx) (enc := fun x => .tup [.int (x.2 : Nat), oD x.1]) (fun i3 l4 u4 => u4 = (p, .lst ((acc ++ (done[x].zipIdx.take i3).filterMap (belowOne (ls, cost, row))).map blD)) :: u2 ∧ ∃ h j, l4 = [some (.tup (cs.map natD)), some d, some (.lst (found.map blD)), some (natD x), some (.adr p), some (.tup (ls.map .int)), some (.int cost), some (.lst (row.map .int)), h, j]) ⟨by simp [blD, prD], _, _, rfl⟩ ?_ ?_
      · rintro i3 ⟨o, ix⟩ l4 u4 hz ⟨rfl, h, j, rfl⟩
        have hacc3 : (acc ++ (done[x].zipIdx.take i3).filterMap (belowOne (ls, cost, row))).length ≤ 520 := by
          rw [List.length_append]
          have h1 := List.length_filterMap_le (belowOne (ls, cost, row)) (done[x].zipIdx.take i3)
          rw [List.length_take, List.length_zipIdx] at h1
          omega
        rw [fm_take hz, ← List.append_assoc]
        generalize acc ++ (done[x].zipIdx.take i3).filterMap (belowOne (ls, cost, row)) = acc3 at hacc3 ⊢
        walk_at "go"
        cases o with
        | none =>
          walk_at "go"
          exact ⟨by simp [belowOne], _, _, rfl⟩
        | some q =>
          walk_at "go"
          have hq9 := hq8 _ (List.getElem_mem hxl) q (List.fst_mem_of_mem_zipIdx (List.mem_of_getElem? hz))
          try rw [List.length_append, List.length_map]
          refine ⟨by simp [LIM]; omega, by simp [LIM]; omega, by simp [LIM]; omega, ?_⟩
          simp [belowOne, blD, prD]
      · rintro l4 u4 ⟨rfl, h, j, rfl⟩
        rw [List.take_length]
        exact ⟨rfl, _, _, _, _, _, rfl⟩
    · rintro l4 u4 ⟨rfl, c, e, g, h, j, rfl⟩
      rw [List.take_length]
      walk_at "go"
      rw [fz2_hd (no_map _ (fun _ => rfl) _)]
      walk_at "wp"
      simp only [List.foldl_cons, belowStep, List.getD_eq_getElem?_getD, hrow, Option.getD_some]
  · rintro l4 u4 ⟨e1, c, e, g, h, j, _, _, rfl⟩
    subst e1
    walk_at "go"
    exact k
end Ob
/-! part Wc -/
namespace Ob
open PySem L2
local macro_rules | `(tactic| walk_at "wp") => `(tactic| simp only [q_wpE_c, q_wpE_slot, q_wpE_bin, q_wpE_neg, q_wpE_not, q_wpE_or, q_wpE_and, q_wpE_cmp, q_wpE_chain, q_wpE_ife, q_wpE_tup, q_wpE_lst, q_wpE_ix, q_wpE_cut, q_att, blD_eq, mvD_eq, ndD_eq, sq_pD, am_1, am_2, am_3, ar_7, ar_2, ar_8, ar_9, ag_7, ag_2, ag_10, ag_8, ag_9, ck_n, ck_n1, cl_i, cl_i1, cl_n1, ci_t, ci_l, cn_t, cn_l, q_wpE_len, q_wpE_list, q_wpE_tuple, q_wpE_sum, q_wpE_min1, q_wpE_min2, q_wpE_int, q_wpE_all, q_wpE_sset, q_wpE_mdict, q_wpE_isi, q_wpE_pop, q_wpE_app, q_wpE_exd, q_wpE_call, q_wpE_meth, q_wpE_new, q_wpE_fz, q_wpE_bor, q_wpA_nil, q_wpA_cons, q_wpA_star, q_wpT_tv, q_wpT_tnot, q_wpT_tand, q_wpT_tor, q_wpT_noE, q_wpO_noE, q_wpO_tv, q_wpI_iSeq, q_wpI_iRan, q_wpI_iRan2, q_wpI_iEnum, q_wpI_iZip, q_wpI_iRev, e_lc, wpG, wpG.wpGs, wipeD, List.map_cons, List.map_nil, List.append_nil, List.cons_append, List.nil_append, List.replicate, List.length_cons, List.length_nil, List.length_map, Nat.reduceSub, Nat.reduceAdd, tN, enum_map,
  List.set_cons_zero, List.set_cons_succ, List.getElem?_cons_zero, List.getElem?_cons_succ, Option.some.injEq, Dt.int.injEq, Dt.bl.injEq, Dt.lst.injEq, Dt.tup.injEq, Dt.ins.injEq, Dt.adr.injEq, Cell.lst.injEq, Cell.ins.injEq, exists_eq_right, exists_eq_right', Prod.mk.injEq, exists_eq_left', exists_eq_left, exists_and_left, exists_eq', exists_eq, true_and, and_true, List.cons.injEq, and_self, and_assoc,
  bk_addi, bk_sub, bk_mul, bk_mod, bk_div, bk_pow, bk_cat, bk_rep, nk_f, nk_t, sq_lst, sq_tup, sq_pr, ls_lst, fz_lst, fz_tup, ts_non, ts_bl, ts_pr, cm_lt, cm_le, cm_gt, cm_ge, cm_eq, cm_ne, cm_eqb, cm_neb, cm_is, cm_isn, in_non, in_int, in_pr, in_o, in_oi, gt_hd, pt_hd, dl_hd,
  at_0, at_1, at_2, at_3, at_4, oD_n, oD_s, oi_n, oi_s, Option.isNone_none, Option.isNone_some, lim_0, lim_1, lim_2, lim_3, lim_4, lim_5, lim_6, lim_7, Int.natCast_nonneg, Int.ofNat_le, Bool.not_true, Bool.true_or, Bool.false_or, Bool.or_true, Bool.or_false, Bool.true_and, Bool.false_and, Bool.and_true, Bool.and_false, List.contains_cons, List.contains_nil, Nat.reduceBEq, Bool.not_false, Bool.true_eq_false, Bool.false_eq_true, false_imp_iff, true_imp_iff, reduceCtorEq, forall_const, Nat.reduceLT, Nat.reduceLeDiff, eq_self, forall_eq', forall_eq])
local macro_rules | `(tactic| walk_at "go") => `(tactic| (try dsimp only); (try walk_at "wp"); repeat (first | refine seq_i ?_ | (refine asg_i ?_; try walk_at "wp") | (refine drop_i ?_; try walk_at "wp") | (refine ret_i ?_; try walk_at "wp") | (refine forr_i ?_; try walk_at "wp") | (refine iff_i ?_; try walk_at "wp") | (refine seti_i ?_; try walk_at "wp") | (refine augi_i ?_; try walk_at "wp") | (refine seta_i ?_; try walk_at "wp") | refine skip_i ?_))
/-! Walks: the reckoner. -/
def S_Reckoner_init : FS := fun ds u K => ∃ (p : Addr) (m : Mac) (P f : Dt) (u0 : Mu), ds = [.adr p, macD m, P, f] ∧ u = (p, .ins 2 []) :: u0 ∧ m.Ok ∧ K .non ((p, .ins 2 [(7, macD m), (2, .keys m.mv), (8, P), (9, f)]) :: u0)
theorem d_Reckoner_init (F : Nat → FS) : Does F 5 4 b_Reckoner_init S_Reckoner_init := by
  rintro ds u K ⟨p, m, P, f, u0, rfl, rfl, mo, k⟩
  refine ⟨rfl, ?_⟩
  have k := keepK k
  simp only [st0]
  unfold b_Reckoner_init
  walk_at "go"
  refine lc_m (xs := m.mv) (enc := mvD) (fun x => .tup [mvD x, .bl true]) (by have := mo.few; simp only [LIM]; omega) (fun x hx J hj => ?_) ?_
  · walk_at "go"
    exact hj
  walk_at "go"
  refine ⟨m.mv, rfl, mo.nd, by have := mo.few; omega, ?_⟩
  walk_at "go"
  walk_at "go"
  exact k
def S_Reckoner_row : FS := fun ds u K => ∃ (m : Mac) (P : List (List Int)) (f : Option Int) (at_ : Nat) (pr : List Int) (letter : Int) (bl : List Bl) (root : Bool), ds = [rkD m (pD P) (oiD f), .int (at_ : Nat), .int letter, .lst (bl.map blD), .bl root] ∧ m.Ok ∧ P[at_]? = some pr ∧ pr.length = m.n ∧
  (∀ x ∈ bl, x.2.2.length ≤ 1000) ∧ K (rowD (rowF m pr f letter bl root)) u
theorem d_Reckoner_row (F : Nat → FS) (h6 : F 6 = S_better) (h8 : F 8 = S_charged) : Does F 13 5 b_Reckoner_row S_Reckoner_row := by
  rintro ds u K ⟨m, P, f, at_, pr, letter, bl, root, rfl, mo, hP, hpr, hbl, k⟩
  refine ⟨rfl, ?_⟩
  have k := keepK k
  have hn8 := mo.n
  simp only [st0]
  unfold b_Reckoner_row
  walk_at "go"
  intro p hp
  walk_at "go"
  refine ⟨by omega, ?_⟩
  refine for_I (xs := List.range m.n) (enc := fun k => .int (k : Nat)) (fun i l2 u2 => u2 = (p, .lst ((((List.range m.n).take i).map fun lab => bl.foldl (rowStep m pr f letter root lab) none).map oD)) :: u ∧ ∃ a b c d e g h, l2 = [some (rkD m (pD P) (oiD f)), some (.int (at_ : Nat)), some (.int letter), some (.lst (bl.map blD)), some (.bl root), some (.adr p), a, b, c, d, e, g, h]) ⟨rfl, _, _, _, _, _, _, _, rfl⟩ ?_ ?_
  · rintro i x l2 u2 hx ⟨rfl, a, b, c, d, e, g, h, rfl⟩
    rw [map_take hx]
    have hxn := (range_get hx).2
    rw [← (range_get hx).1] at hxn
    have hacc : (((List.range m.n).take i).map (fun lab => bl.foldl (rowStep m pr f letter root lab) none)).length ≤ 8 := by
      rw [List.length_map, List.length_take, List.length_range]
      omega
    generalize ((List.range m.n).take i).map (fun lab => bl.foldl (rowStep m pr f letter root lab) none) = acc at hacc ⊢
    walk_at "go"
    refine for_f (F := F) (xs := bl) (enc := blD) (step := rowStep m pr f letter root x) (b0 := none) (fun best l2 u2 => u2 = (p, .lst (acc.map oD)) :: u ∧ ∃ c d e g h, l2 = [some (rkD m (pD P) (oiD f)), some (.int (at_ : Nat)), some (.int letter), some (.lst (bl.map blD)), some (.bl root), some (.adr p), some (.int (x : Nat)), some (oD best), c, d, e, g, h]) ⟨rfl, _, _, _, _, _, rfl⟩ ?_ ?_
    · rintro i2 y l3 u3 hy ⟨rfl, c, d, e, g, h, rfl⟩
      generalize (bl.take i2).foldl (rowStep m pr f letter root x) none = best
      have hyl := hbl y (List.mem_of_getElem? hy)
      obtain ⟨ls, cost, row⟩ := y
      simp only at hyl
      simp only [rowStep]
      walk_at "go"
      generalize decide ((letter, ls, (x : Int)) ∈ m.mv) = b1
      generalize decide ((x : Int) ∈ m.en) = b2
      have e1 : atI (List.map Dt.int pr) (x : Int) = some (.int (pr.getD x 0)) := at_i (by omega)
      generalize hc : cost + pr.getD x 0 = cst
      cases b1 <;> cases root <;> cases b2 <;> walk_at "go" <;> refine ⟨_, at_P hP, _, rfl, _, e1, ?_⟩ <;> walk_at "go" <;> rw [h8, hc] <;> refine ⟨cst, _, f, rfl, ?_⟩
      all_goals walk_at "go"
      all_goals generalize charged cst _ f = o
      all_goals cases o <;> walk_at "go"
      all_goals first | exact ⟨rfl, _, _, _, _, _, rfl⟩ | skip
      all_goals refine ⟨by simp [LIM]; omega, ?_⟩
      all_goals rw [h6]
      all_goals rename_i v
      all_goals refine ⟨best, some (v, row ++ [(x : Int)]), by simp only [oD_s, prD, List.map_append, List.map_cons, List.map_nil], ?_⟩
      all_goals walk_at "go"
    · rintro l4 u4 ⟨rfl, c, d, e, g, h, rfl⟩
      walk_at "go"
      exact ⟨by simp only [LIM]; omega, by simp⟩
  · rintro l4 u4 ⟨rfl, a, b, c, d, e, g, h, rfl⟩
    walk_at "go"
    rw [fz2_hd (no_row _), List.take_length]
    exact k
end Ob
/-! part Sp -/
namespace Ob
open PySem L2
local macro_rules | `(tactic| walk_at "wp") => `(tactic| simp only [q_wpE_c, q_wpE_slot, q_wpE_bin, q_wpE_neg, q_wpE_not, q_wpE_or, q_wpE_and, q_wpE_cmp, q_wpE_chain, q_wpE_ife, q_wpE_tup, q_wpE_lst, q_wpE_ix, q_wpE_cut, q_att, blD_eq, mvD_eq, ndD_eq, sq_pD, am_1, am_2, am_3, ar_7, ar_2, ar_8, ar_9, ag_7, ag_2, ag_10, ag_8, ag_9, ck_n, ck_n1, cl_i, cl_i1, cl_n1, ci_t, ci_l, cn_t, cn_l, q_wpE_len, q_wpE_list, q_wpE_tuple, q_wpE_sum, q_wpE_min1, q_wpE_min2, q_wpE_int, q_wpE_all, q_wpE_sset, q_wpE_mdict, q_wpE_isi, q_wpE_pop, q_wpE_app, q_wpE_exd, q_wpE_call, q_wpE_meth, q_wpE_new, q_wpE_fz, q_wpE_bor, q_wpA_nil, q_wpA_cons, q_wpA_star, q_wpT_tv, q_wpT_tnot, q_wpT_tand, q_wpT_tor, q_wpT_noE, q_wpO_noE, q_wpO_tv, q_wpI_iSeq, q_wpI_iRan, q_wpI_iRan2, q_wpI_iEnum, q_wpI_iZip, q_wpI_iRev, e_lc, wpG, wpG.wpGs, wipeD, List.map_cons, List.map_nil, List.append_nil, List.cons_append, List.nil_append, List.replicate, List.length_cons, List.length_nil, List.length_map, Nat.reduceSub, Nat.reduceAdd, tN, enum_map,
  List.set_cons_zero, List.set_cons_succ, List.getElem?_cons_zero, List.getElem?_cons_succ, Option.some.injEq, Dt.int.injEq, Dt.bl.injEq, Dt.lst.injEq, Dt.tup.injEq, Dt.ins.injEq, Dt.adr.injEq, Cell.lst.injEq, Cell.ins.injEq, exists_eq_right, exists_eq_right', Prod.mk.injEq, exists_eq_left', exists_eq_left, exists_and_left, exists_eq', exists_eq, true_and, and_true, List.cons.injEq, and_self, and_assoc,
  bk_addi, bk_sub, bk_mul, bk_mod, bk_div, bk_pow, bk_cat, bk_rep, nk_f, nk_t, sq_lst, sq_tup, sq_pr, ls_lst, fz_lst, fz_tup, ts_non, ts_bl, ts_pr, cm_lt, cm_le, cm_gt, cm_ge, cm_eq, cm_ne, cm_eqb, cm_neb, cm_is, cm_isn, in_non, in_int, in_pr, in_o, in_oi, gt_hd, pt_hd, dl_hd,
  at_0, at_1, at_2, at_3, at_4, oD_n, oD_s, oi_n, oi_s, Option.isNone_none, Option.isNone_some, lim_0, lim_1, lim_2, lim_3, lim_4, lim_5, lim_6, lim_7, Int.natCast_nonneg, Int.ofNat_le, Bool.not_true, Bool.true_or, Bool.false_or, Bool.or_true, Bool.or_false, Bool.true_and, Bool.false_and, Bool.and_true, Bool.and_false, List.contains_cons, List.contains_nil, Nat.reduceBEq, Bool.not_false, Bool.true_eq_false, Bool.false_eq_true, false_imp_iff, true_imp_iff, reduceCtorEq, forall_const, Nat.reduceLT, Nat.reduceLeDiff, eq_self, forall_eq', forall_eq])
local macro_rules | `(tactic| walk_at "go") => `(tactic| (try dsimp only); (try walk_at "wp"); repeat (first | refine seq_i ?_ | (refine asg_i ?_; try walk_at "wp") | (refine drop_i ?_; try walk_at "wp") | (refine ret_i ?_; try walk_at "wp") | (refine forr_i ?_; try walk_at "wp") | (refine iff_i ?_; try walk_at "wp") | (refine seti_i ?_; try walk_at "wp") | (refine augi_i ?_; try walk_at "wp") | (refine seta_i ?_; try walk_at "wp") | (refine skip_i ?_; try walk_at "wp")))
/-! What the law's own defs reckon, and all promises. -/
abbrev liD (r : List Int) : Dt := .lst (r.map .int)
abbrev riD (r : List (Option Int)) : Dt := .lst (r.map oiD)
abbrev llD (ls : List (List Int)) : Dt := .lst (ls.map fun r => .lst (r.map .int))
abbrev rrD (ls : List (List (Option Int))) : Dt := .lst (ls.map fun (r : List (Option Int)) => Dt.lst (r.map oiD))
/-- the law's machine -/
structure Lm where
  L : Nat
  n : Nat
  mv : List Mv
  en : List Int
def lmD (m : Lm) : Dt := .tup [.int m.L, .int m.n, .lst (m.mv.map mvD), .lst (m.en.map .int)]
theorem sq_lm {u : Mu} (m : Lm) : seqOf u (lmD m) = some [.int m.L, .int m.n, .lst (m.mv.map mvD), .lst (m.en.map .int)] := rfl
structure Lm.Ok (m : Lm) : Prop where
  L : 1 ≤ m.L ∧ m.L ≤ 3
  n : 1 ≤ m.n ∧ m.n ≤ 3
  few : m.mv.length ≤ 10
  let_ : ∀ x ∈ m.mv, 0 ≤ x.1 ∧ x.1 < (m.L : Int)
  lab : ∀ x ∈ m.mv, 0 ≤ x.2.2 ∧ x.2.2 < (m.n : Int)
  ch : ∀ x ∈ m.mv, x.2.1.length ≤ 2 ∧ ∀ c ∈ x.2.1, 0 ≤ c ∧ c < (m.n : Int)
  efew : m.en.length ≤ 3
  eok : ∀ x ∈ m.en, 0 ≤ x ∧ x < (m.n : Int)
/-- the made machine is the law's -/
structure Same2 (m : Mac) (q : Lm) : Prop where
  L : m.L = q.L
  n : m.n = q.n
  nd : m.mv.Nodup
  mv : ∀ z, z ∈ m.mv ↔ z ∈ q.mv
  en : ∀ z, z ∈ m.en ↔ z ∈ q.en
  end_ : m.en.Nodup

def goodF (q : Lm) (ns : List Nd) (ls : List Int) (at_ : Nat) : Bool :=
  let x := ns.getD at_ (0, [])
  decide ((x.1, x.2.map (fun c => ls.getD c 0), ls.getD at_ 0) ∈ q.mv) && !(decide (at_ = ns.length - 1) && !decide (ls.getD at_ 0 ∈ q.en))
def objF (q : Lm) (ns : List Nd) (ls : List Int) : List Nat := (List.range ns.length).filter fun at_ => !goodF q ns ls at_
def longer (n : Nat) (found : List (List Int)) : List (List Int) := found.flatMap fun row => (List.range n).map fun (l : Nat) => row ++ [(l : Int)]
def listsF (k n : Nat) : List (List Int) := (List.range k).foldl (fun found _ => longer n found) [[]]
def wholeF (P : List (List Int)) (ls : List Int) : Int := ((List.range ls.length).map fun k => (P.getD k []).getD (ls.getD k 0).toNat 0).sum
def costF (P : List (List Int)) (f : Option Int) (ls : List Int) (c : Nat) : Option Int := if 0 < c then f.map (fun f => wholeF P ls + (c : Int) * f) else some (wholeF P ls)
def ringBad (q : Lm) (ring ls : List Int) (k : Nat) : Bool := !decide ((ring.getD k 0, [(atI ls ((k : Int) - 1)).getD 0], ls.getD k 0) ∈ q.mv)
def ringObjF (q : Lm) (ring ls : List Int) : List Nat := (List.range ring.length).filter (ringBad q ring ls)
def bestStep (lists : List (List Int)) (costs : List (Option Int)) (b : Option Pr) (k : Nat) : Option Pr := match costs.getD k none with
  | none => b
  | some c => match b with
    | none => some (c, lists.getD k [])
    | some x => if c < x.1 then some (c, lists.getD k []) else some x
def bestL (lists : List (List Int)) (costs : List (Option Int)) : Option Pr := (List.range lists.length).foldl (bestStep lists costs) none
def labOf (p : Option Pr) : List Int := match p with
  | none => []
  | some p => p.2
def leastF (xs : List (Option Int)) : Option Int := (xs.filterMap id).min?
def sumO : List (Option Int) → Option Int
  | [] => some 0
  | none :: _ => none
  | some i :: r => (sumO r).map (i + ·)
def rootOne (q : Lm) (letter : Int) (below : List (List (Option Int))) (pr : List Int) (f : Option Int) (root : Bool) (lab : Nat) (ch : List Int) : Option Int :=
  (sumO ((List.range below.length).map fun k => (below.getD k []).getD (ch.getD k 0).toNat none)).bind fun s =>
    if (decide ((letter, ch, (lab : Int)) ∈ q.mv) && (!root || decide ((lab : Int) ∈ q.en))) = true then some (s + pr.getD lab 0) else f.map (s + pr.getD lab 0 + ·)
def rootRow (q : Lm) (letter : Int) (below : List (List (Option Int))) (pr : List Int) (f : Option Int) (root : Bool) : List (Option Int) :=
  (List.range q.n).map fun lab => ((listsF below.length q.n).filterMap (rootOne q letter below pr f root lab)).min?
def numStep (q : Lm) (P : List (List Int)) (f : Option Int) (ns : List Nd) (rows : List (List (Option Int))) (at_ : Nat) : List (List (Option Int)) :=
  rows ++ [rootRow q (ns.getD at_ (0, [])).1 ((ns.getD at_ (0, [])).2.map fun c => rows.getD c []) (P.getD at_ []) f false]
def numF (q : Lm) (ns : List Nd) (P : List (List Int)) (f : Option Int) : List (List (Option Int)) := (List.range ns.length).foldl (numStep q P f ns) []
def numEnds (q : Lm) (ns : List Nd) (P : List (List Int)) (f : Option Int) : List (Option Int) :=
  rootRow q (ns.getD (ns.length - 1) (0, [])).1 ((ns.getD (ns.length - 1) (0, [])).2.map fun c => (numF q ns P f).getD c []) (P.getD (P.length - 1) []) f true
def stepOne (q : Lm) (letter : Int) (before : List (Option Int)) (pr : List Int) (f : Option Int) (lab own : Nat) : Option Int :=
  (before.getD own none).bind fun b => if (letter, [(own : Int)], (lab : Int)) ∈ q.mv then some (b + pr.getD lab 0) else f.map (b + pr.getD lab 0 + ·)
def lawStep (q : Lm) (letter : Int) (before : List (Option Int)) (pr : List Int) (f : Option Int) : List (Option Int) := (List.range q.n).map fun lab => ((List.range q.n).filterMap (stepOne q letter before pr f lab)).min?
def ringRows0 (q : Lm) (first : Nat) : List (Option Int) := (List.replicate q.n none).set first (some 0)
def lawRows (q : Lm) (ring : List Int) (P : List (List Int)) (f : Option Int) (first : Nat) : List (List (Option Int)) :=
  (List.range (ring.length - 1)).foldl (fun rows i => rows ++ [lawStep q (ring.getD (i + 1) 0) (rows.getLastD []) (P.getD (i + 1) []) f]) [ringRows0 q first]
def lawRing (q : Lm) (ring : List Int) (P : List (List Int)) (f : Option Int) : List (List (List (Option Int))) := (List.range q.n).map (lawRows q ring P f)

/-! ### answers -/
structure An where
  cost : Option Int
  labels : List Int
  numbers : List (List (Option Int))
  ends : List (Option Int)
def anD (a : An) : Dt := .lst [oiD a.cost, .lst (a.labels.map .int), rrD a.numbers, riD a.ends]
def treeAn (a b c : An) (w : Int) : Dt := .lst [anD a, anD b, anD c, .int w, .bl (decide (0 < w))]
def fAn (x : Fnd) : An := ⟨x.cost, x.labels, x.numbers, x.ends⟩
def toldT (m : Mac) (t : Tr) (P : List (List Int)) (f : Option Int) (old : List Int) : Dt := treeAn (fAn (bestF m t P f)) (fAn (fewestF m t)) (fAn (afterF m t old)) (waysF m t)
def zerosF (n k : Nat) : List (List Int) := List.replicate k (List.replicate n 0)
def farF (ls old : List Int) : Nat := ((List.range ls.length).filter fun k => !decide (ls.getD k 0 = old.getD k 0)).length
def dueT (q : Lm) (t : Tr) (P : List (List Int)) (f : Option Int) (old : List Int) : Dt :=
  let ns := nodes t
  let lists := listsF ns.length q.n
  let cnt := fun ls => (objF q ns ls).length
  let an := fun (costs : List (Option Int)) (P : List (List Int)) (f : Option Int) => (⟨costOf (bestL lists costs), labOf (bestL lists costs), numF q ns P f, numEnds q ns P f⟩ : An)
  treeAn (an (lists.map fun ls => costF P f ls (cnt ls)) P f) (an (lists.map fun ls => some (cnt ls : Int)) (zerosF q.n ns.length) (some 1))
    (an (lists.map fun ls => if 0 < cnt ls then none else some (farF ls old : Int)) (changeP q.n old) none) ((lists.filter fun ls => decide (cnt ls = 0)).length : Int)
def rgAnD (c : Option Int) (ls : List Int) (nums : List (List (List (Option Int)))) (w : Bool) : Dt := .lst [.lst [oiD c, .lst (ls.map .int), .lst (nums.map fun (r : List (List (Option Int))) => rrD r)], .bl w]
def toldR (m : Mac) (ring : List Int) (P : List (List Int)) (f : Option Int) : Dt := rgAnD (bestRingF m ring P f).cost (bestRingF m ring P f).labels (bestRingF m ring P f).numbers (ringWish m ring)
def dueR (q : Lm) (ring : List Int) (P : List (List Int)) (f : Option Int) : Dt :=
  let lists := listsF ring.length q.n
  let cnt := fun ls => (ringObjF q ring ls).length
  let b := bestL lists (lists.map fun ls => costF P f ls (cnt ls))
  rgAnD (costOf b) (labOf b) (lawRing q ring P f) (lists.any fun ls => decide (cnt ls = 0))

/-! ### promises -/
def S_nodes_of : FS := fun ds u K => ∃ t : Tr, ds = [treeD t] ∧ t.size ≤ 100 ∧ K (.lst ((nodes t).map ndD)) u
def S_counted : FS := fun ds u K => ∃ (m : Mac) (t : Tr), ds = [macD m, treeD t] ∧ m.Ok ∧ m.mv.length ≤ 10 ∧ t.size ≤ 4 ∧ K (liD ((countedF m t).getLastD [])) u
def S_ways : FS := fun ds u K => ∃ (m : Mac) (t : Tr), ds = [macD m, treeD t] ∧ m.Ok ∧ m.mv.length ≤ 10 ∧ t.size ≤ 4 ∧ K (.int (waysF m t)) u
def S_wishes : FS := fun ds u K => ∃ (m : Mac) (t : Tr), ds = [macD m, treeD t] ∧ m.Ok ∧ m.mv.length ≤ 10 ∧ t.size ≤ 4 ∧ K (.bl (decide (0 < waysF m t))) u
def S_ring_wishes : FS := fun ds u K => ∃ (m : Mac) (ring : List Int), ds = [macD m, liD ring] ∧ m.Ok ∧ K (.bl (ringWish m ring)) u
def S_Found_init : FS := fun ds u K => ∃ (p : Addr) (kind cost nums : Dt) (xs ns es : List Dt) (u0 : Mu), ds = [.adr p, kind, cost, .lst xs, nums, .lst es] ∧ u = (p, .ins 1 []) :: u0 ∧ seqOf u0 nums = some ns ∧ (∀ q, nums = .adr q → q ≠ p) ∧
  ∀ pl pe, pl ≠ p → pl ∉ adrs u0 → pe ≠ p → pe ≠ pl → pe ∉ adrs u0 → K .non ((pe, .lst es) :: (pl, .lst xs) :: (p, .ins 1 [(4, kind), (5, cost), (1, .adr pl), (6, .lst ns), (3, .adr pe)]) :: u0)
/-- what a Found looks like -/
def FndP (x : Fnd) (u : Mu) (K : Dt → Mu → Prop) : Prop := ∀ (kind : Dt) (rs : List Addr) (pl pe : Addr) (u' : Mu), rs.length = x.numbers.length → (∀ (i : Nat) (p : Addr) (r : List (Option Int)), rs[i]? = some p → x.numbers[i]? = some (r : List (Option Int)) → get u' p = some (.lst (r.map oiD))) →
  get u' pl = some (.lst (x.labels.map .int)) → get u' pe = some (.lst (x.ends.map oiD)) → (∀ p c, get u p = some c → get u' p = some c) →
  K (.ins 1 [(4, kind), (5, oiD x.cost), (1, .adr pl), (6, .lst (rs.map .adr)), (3, .adr pe)]) u'
def S_best : FS := fun ds u K => ∃ (m : Mac) (t : Tr) (P : List (List Int)) (f : Option Int), ds = [macD m, treeD t, pD P, oiD f] ∧ m.Ok ∧ t.size ≤ 4 ∧ P.length = t.size ∧ (∀ r ∈ P, r.length = m.n) ∧ FndP (bestF m t P f) u K
def S_fewest : FS := fun ds u K => ∃ (m : Mac) (t : Tr), ds = [macD m, treeD t] ∧ m.Ok ∧ t.size ≤ 4 ∧ FndP (fewestF m t) u K
def S_after : FS := fun ds u K => ∃ (m : Mac) (t : Tr) (old : List Int), ds = [macD m, treeD t, liD old] ∧ m.Ok ∧ t.size ≤ 4 ∧ old.length = t.size ∧ FndP (afterF m t old) u K
def S_Machine_init : FS := fun ds u K => ∃ (p : Addr) (q : Lm) (u0 : Mu), ds = [.adr p, .int q.L, .int q.n, .lst (q.mv.map mvD), .lst (q.en.map .int)] ∧ u = (p, .ins 0 []) :: u0 ∧ q.Ok ∧
  ∀ m : Mac, Same2 m q → K .non ((p, .ins 0 [(0, .int m.L), (1, .int m.n), (2, .tup (m.mv.map mvD)), (3, .tup (m.en.map .int))]) :: u0)
def S_Ring_init : FS := fun ds u K => ∃ (p : Addr) (m : Mac) (g P f : Dt) (u0 : Mu), ds = [.adr p, macD m, g, P, f] ∧ u = (p, .ins 3 []) :: u0 ∧ m.Ok ∧ K .non ((p, .ins 3 [(7, macD m), (2, .keys m.mv), (10, g), (8, P), (9, f)]) :: u0)
def S_Ring_charge : FS := fun ds u K => ∃ (m : Mac) (ring : List Int) (P f : Dt) (fi : Option Int) (c : Int) (at_ : Nat) (b l : Int), f = oiD fi ∧ ds = [rgD m (liD ring) P f, .int c, .int (at_ : Nat), .int b, .int l] ∧ at_ < ring.length ∧ K (oiD (chargeR m ring fi c at_ b l)) u
def PrOk (m : Mac) (ring : List Int) (P : List (List Int)) : Prop := m.Ok ∧ 1 ≤ ring.length ∧ ring.length ≤ 10 ∧ P.length = ring.length ∧ ∀ r ∈ P, r.length = m.n
def S_Ring_rows : FS := fun ds u K => ∃ (m : Mac) (ring : List Int) (P : List (List Int)) (f : Option Int) (first : Nat), ds = [rgD m (liD ring) (pD P) (oiD f), .int (first : Nat)] ∧ PrOk m ring P ∧ first < m.n ∧ K (.lst ((ringRows m ring P f first).map rowD)) u
def S_Ring_row : FS := fun ds u K => ∃ (m : Mac) (ring : List Int) (P : List (List Int)) (f : Option Int) (at_ : Nat) (before : Row), ds = [rgD m (liD ring) (pD P) (oiD f), .int (at_ : Nat), rowD before] ∧ PrOk m ring P ∧ at_ < ring.length ∧
  (∀ q, some q ∈ before → q.2.length ≤ 100) ∧ K (rowD (ringRow m ring P f at_ before)) u
def S_Ring_closed : FS := fun ds u K => ∃ (m : Mac) (ring : List Int) (P : List (List Int)) (f : Option Int) (first : Nat) (last : Row), ds = [rgD m (liD ring) (pD P) (oiD f), .int (first : Nat), rowD last] ∧ PrOk m ring P ∧ first < m.n ∧
  K (oD (closedF m ring P f first last)) u
def RndP (x : Rnd) (u : Mu) (K : Dt → Mu → Prop) : Prop := ∀ (kind : Dt) (rs : List (List Addr)) (pl pe : Addr) (u' : Mu), rs.length = x.numbers.length → (∀ (i : Nat) (as : List Addr) (r : List (List (Option Int))), rs[i]? = some as → x.numbers[i]? = some r → as.length = r.length ∧ ∀ (j : Nat) (p : Addr) (y : List (Option Int)), as[j]? = some p → r[j]? = some y → get u' p = some (.lst (y.map oiD))) →
  get u' pl = some (.lst (x.labels.map .int)) → (∀ p c, get u p = some c → get u' p = some c) →
  K (.ins 1 [(4, kind), (5, oiD x.cost), (1, .adr pl), (6, .lst (rs.map fun (as : List Addr) => Dt.lst (as.map .adr))), (3, .adr pe)]) u'
def S_best_ring : FS := fun ds u K => ∃ (m : Mac) (ring : List Int) (P : List (List Int)) (f : Option Int), ds = [macD m, liD ring, pD P, oiD f] ∧ PrOk m ring P ∧ RndP (bestRingF m ring P f) u K
/-- the pool that numbers are drawn from -/
def PoolL (x : List Dt) : Prop := ∃ (cells : List Int) (a b c d e : Int), x = [liD cells, .int a, .int b, .int c, .int d, .int e] ∧ 0 ≤ a
def S_pool : FS := fun ds u K => ∃ (ns : List Int) (b : Int), ds = [.scr ns, .int b] ∧ ∀ p x, p ∉ adrs u → PoolL x → K (.adr p) ((p, .lst x) :: u)
def S_draw : FS := fun ds u K => ∃ (p : Addr) (n : Int) (x : List Dt), ds = [.adr p, .int n] ∧ get u p = some (.lst x) ∧ PoolL x ∧ 0 < n ∧ n < 1073741824 ∧ ∀ (v : Nat) x', (v : Int) < n → PoolL x' → K (.int v) (put u p (.lst x'))
/-- plain data, as deep as k -/
inductive Pl : Nat → Dt → Prop where
  | non {k} : Pl k .non
  | bl {k b} : Pl k (.bl b)
  | int {k i} : Pl k (.int i)
  | lst {k ds} (h : ∀ d ∈ ds, Pl k d) (n : ds.length ≤ 100000) : Pl (k + 1) (.lst ds)
def S_same (k : Nat) : FS := fun ds u K => ∃ d, ds = [d, d] ∧ Pl k d ∧ K (.bl true) u
def S_lmachine : FS := fun ds u K => ∃ (p : Addr) (L n : Nat) (x : List Dt), ds = [.adr p, .int L, .int n, .int 10] ∧ 1 ≤ L ∧ L ≤ 3 ∧ 1 ≤ n ∧ n ≤ 3 ∧ get u p = some (.lst x) ∧ PoolL x ∧
  ∀ (q : Lm) x', q.Ok → q.L = L → q.n = n → PoolL x' → K (lmD q) (put u p (.lst x'))
def S_ltree (b : Nat) : FS := fun ds u K => ∃ (p q : Addr) (L left : Nat) (x : List Dt), ds = [.adr p, .int L, .adr q] ∧ 1 ≤ L ∧ L ≤ 3 ∧ p ≠ q ∧ get u p = some (.lst x) ∧ PoolL x ∧ get u q = some (.lst [.int left]) ∧ left ≤ b ∧
  ∀ (t : Tr) x' (left' : Nat), t.size + left' ≤ left + 1 → PoolL x' → K (treeD t) (put (put u p (.lst x')) q (.lst [.int left']))
def S_lnodes (b : Nat) : FS := fun ds u K => ∃ t : Tr, ds = [treeD t] ∧ t.size ≤ b ∧ K (.lst ((nodes t).map ndD)) u
def S_lrow_tree : FS := fun ds u K => ∃ ls : List Int, ds = [liD ls] ∧ ls ≠ [] ∧ ∀ t : Tr, t.size = ls.length → K (treeD t) u
def S_lshape : FS := fun ds u K => ∃ (p : Addr) (L : Nat) (x : List Dt), ds = [.adr p, .int L, .int 4] ∧ 1 ≤ L ∧ L ≤ 3 ∧ get u p = some (.lst x) ∧ PoolL x ∧ ∀ (t : Tr) x', t.size ≤ 4 → PoolL x' → K (treeD t) (put u p (.lst x'))
def S_lobjects : FS := fun ds u K => ∃ (q : Lm) (t : Tr) (ls : List Int), ds = [lmD q, .lst ((nodes t).map ndD), liD ls] ∧ t.size ≤ 4 ∧ ls.length = t.size ∧ K (.lst ((objF q (nodes t) ls).map natD)) u
def S_llists : FS := fun ds u K => ∃ k n : Nat, ds = [.int k, .int n] ∧ k ≤ 4 ∧ n ≤ 3 ∧ K (llD (listsF k n)) u
def S_lmade : FS := fun ds u K => ∃ q : Lm, ds = [lmD q] ∧ q.Ok ∧ ∀ m : Mac, Same2 m q → K (macD m) u
def S_lprices : FS := fun ds u K => ∃ (p : Addr) (k n : Nat) (x : List Dt), ds = [.adr p, .int k, .int n] ∧ k ≤ 10 ∧ n ≤ 10 ∧ get u p = some (.lst x) ∧ PoolL x ∧
  ∀ (rs : List Addr) u' x', rs.length = k → (∀ r ∈ rs, ∃ ns : List Int, ns.length = n ∧ get u' r = some (.lst (ns.map .int))) → (∀ q, q ≠ p → q ∈ adrs u → get u' q = get u q) → get u' p = some (.lst x') → PoolL x' → K (.lst (rs.map .adr)) u'
def S_lcost : FS := fun ds u K => ∃ (P : List (List Int)) (f : Option Int) (ls : List Int) (c : Nat), ds = [pD P, oiD f, liD ls, .int c] ∧ ls.length ≤ 100 ∧ ls.length ≤ P.length ∧ c ≤ 1000 ∧ (∀ (k : Nat) (i : Int) (r : List Int), ls[k]? = some i → P[k]? = some r → 0 ≤ i ∧ i < r.length) ∧ K (oiD (costF P f ls c)) u
def S_lring_objects : FS := fun ds u K => ∃ (q : Lm) (ring ls : List Int), ds = [lmD q, liD ring, liD ls] ∧ ring.length = ls.length ∧ ring.length ≤ 100 ∧ K (.lst ((ringObjF q ring ls).map natD)) u
def S_lbest : FS := fun ds u K => ∃ (lists : List (List Int)) (costs : List (Option Int)), ds = [llD lists, riD costs] ∧ costs.length = lists.length ∧ lists.length ≤ 1000 ∧ K (.lst [oiD (costOf (bestL lists costs)), .lst ((labOf (bestL lists costs)).map .int)]) u
def S_lleast : FS := fun ds u K => ∃ xs : List (Option Int), ds = [riD xs] ∧ xs.length ≤ 1000 ∧ K (oiD (leastF xs)) u
def S_lroot_row : FS := fun ds u K => ∃ (q : Lm) (letter : Int) (below : List (List (Option Int))) (pr : List Int) (f : Option Int) (root : Bool), ds = [lmD q, .int letter, rrD below, liD pr, oiD f, .bl root] ∧ q.n ≤ 3 ∧ below.length ≤ 2 ∧ (∀ r ∈ below, r.length = q.n) ∧ pr.length = q.n ∧
  K (riD (rootRow q letter below pr f root)) u
def S_lnumbers : FS := fun ds u K => ∃ (q : Lm) (t : Tr) (P : List (List Int)) (f : Option Int), ds = [lmD q, .lst ((nodes t).map ndD), pD P, oiD f] ∧ q.n ≤ 3 ∧ t.size ≤ 4 ∧ P.length = t.size ∧ (∀ r ∈ P, r.length = q.n) ∧
  K (.tup [rrD (numF q (nodes t) P f), riD (numEnds q (nodes t) P f)]) u
def S_lstep : FS := fun ds u K => ∃ (q : Lm) (letter : Int) (d : Dt) (before : List (Option Int)) (pr : List Int) (f : Option Int), ds = [lmD q, .int letter, d, liD pr, oiD f] ∧ q.n ≤ 3 ∧ seqOf u d = some (before.map oiD) ∧ (∀ p, d = .adr p → p ∈ adrs u) ∧ before.length = q.n ∧ pr.length = q.n ∧
  K (riD (lawStep q letter before pr f)) u
def S_lring_numbers : FS := fun ds u K => ∃ (q : Lm) (ring : List Int) (P : List (List Int)) (f : Option Int), ds = [lmD q, liD ring, pD P, oiD f] ∧ q.n ≤ 3 ∧ 1 ≤ ring.length ∧ ring.length ≤ 10 ∧ P.length = ring.length ∧ (∀ r ∈ P, r.length = q.n) ∧
  ∀ d, K (.tup [.lst ((lawRing q ring P f).map fun (r : List (List (Option Int))) => rrD r), d]) u
def S_ltree_due : FS := fun ds u K => ∃ (q : Lm) (t : Tr) (P : List (List Int)) (f : Option Int) (old : List Int), ds = [lmD q, treeD t, pD P, oiD f, liD old] ∧ q.Ok ∧ t.size ≤ 4 ∧ P.length = t.size ∧ (∀ r ∈ P, r.length = q.n) ∧ old.length = t.size ∧ K (dueT q t P f old) u
def S_ltree_told : FS := fun ds u K => ∃ (m : Mac) (t : Tr) (P : List (List Int)) (f : Option Int) (old : List Int), u = [] ∧ ds = [macD m, treeD t, pD P, oiD f, liD old] ∧ m.Ok ∧ m.mv.length ≤ 10 ∧ t.size ≤ 4 ∧ P.length = t.size ∧ (∀ r ∈ P, r.length = m.n) ∧ old.length = t.size ∧ ∀ u', K (toldT m t P f old) u'
def S_lring_due : FS := fun ds u K => ∃ (q : Lm) (ring : List Int) (P : List (List Int)) (f : Option Int), ds = [lmD q, liD ring, pD P, oiD f] ∧ q.Ok ∧ 1 ≤ ring.length ∧ ring.length ≤ 4 ∧ P.length = ring.length ∧ (∀ r ∈ P, r.length = q.n) ∧ K (dueR q ring P f) u
def S_lring_told : FS := fun ds u K => ∃ (m : Mac) (ring : List Int) (P : List (List Int)) (f : Option Int), u = [] ∧ ds = [macD m, liD ring, pD P, oiD f] ∧ PrOk m ring P ∧ ∀ u', K (toldR m ring P f) u'
/-- a cell holds k numbers -/
def HasN (u : Mu) (p : Addr) (k : Nat) : Prop := ∃ ns : List Int, ns.length = k ∧ get u p = some (.lst (ns.map .int))
def S_lmoved : FS := fun ds u K => ∃ (ps ms : List Addr) (po pr : Addr) (L n a b c d : Nat), ds = [.lst (ps.map .adr), .adr po, .adr pr, .lst (ms.map .adr), .int L, .int n] ∧ 1 ≤ L ∧ L ≤ 3 ∧ 1 ≤ n ∧ n ≤ 3 ∧ 1 ≤ a ∧ 1 ≤ b ∧ 1 ≤ c ∧ 1 ≤ d ∧ ps ≠ [] ∧ ms ≠ [] ∧
  (∀ p ∈ ps, HasN u p a) ∧ (∀ p ∈ ms, HasN u p b) ∧ HasN u po c ∧ HasN u pr d ∧ ∀ u', (∀ p k, HasN u p k → HasN u' p k) → K .non u'
def S_law : FS := fun ds u K => ∃ ns : List Int, ds = [.scr ns] ∧ K (.bl true) u
theorem nodes_len : ∀ t : Tr, (nodes t).length = t.size
  | .n0 _ => rfl
  | .n1 _ a => by
    simp only [nodes, Tr.size, List.length_append, nodes_len a, List.length_cons, List.length_nil]
  | .n2 _ a b => by
    simp only [nodes, Tr.size, List.length_append, List.length_map, nodes_len a, nodes_len b, List.length_cons, List.length_nil]
theorem size_pos : ∀ t : Tr, 1 ≤ t.size
  | .n0 _ => Nat.le_refl _
  | .n1 _ _ => Nat.le_add_left _ _
  | .n2 _ _ _ => Nat.le_add_left _ _
/-- children come ahead of their parent -/
theorem nodes_ok : ∀ (t : Tr) (i : Nat) (x : Nd), (nodes t)[i]? = some x → x.2 = [] ∨ (∃ a, x.2 = [a] ∧ a < i) ∨ ∃ a b, x.2 = [a, b] ∧ a < b ∧ b < i
  | .n0 l, i, x, h => by
    cases i with
    | zero =>
      cases h
      exact .inl rfl
    | succ i => cases h
  | .n1 l a, i, x, h => by
    have pa := size_pos a
    simp only [nodes] at h
    by_cases hi : i < a.size
    · rw [List.getElem?_append_left (by rw [nodes_len]; exact hi)] at h
      exact nodes_ok a i x h
    · rw [List.getElem?_append_right (by rw [nodes_len]; omega), nodes_len] at h
      cases e : i - a.size with
      | zero =>
        rw [e] at h
        cases h
        exact .inr (.inl ⟨_, rfl, by omega⟩)
      | succ j =>
        rw [e] at h
        cases h
  | .n2 l a b, i, x, h => by
    have pa := size_pos a
    have pb := size_pos b
    simp only [nodes, List.append_assoc] at h
    by_cases hi : i < a.size
    · rw [List.getElem?_append_left (by rw [nodes_len]; exact hi)] at h
      exact nodes_ok a i x h
    · rw [List.getElem?_append_right (by rw [nodes_len]; omega), nodes_len] at h
      by_cases hj : i - a.size < b.size
      · rw [List.getElem?_append_left (by rw [List.length_map, nodes_len]; exact hj), List.getElem?_map] at h
        cases e : (nodes b)[i - a.size]? with
        | none =>
          rw [e] at h
          cases h
        | some y =>
          rw [e] at h
          cases h
          rcases nodes_ok b _ y e with h1 | ⟨c, h1, h2⟩ | ⟨c, d, h1, h2, h3⟩
          · exact .inl (by simp [shiftN, h1])
          · exact .inr (.inl ⟨c + a.size, by simp [shiftN, h1], by omega⟩)
          · exact .inr (.inr ⟨c + a.size, d + a.size, by simp [shiftN, h1], by omega, by omega⟩)
      · rw [List.getElem?_append_right (by rw [List.length_map, nodes_len]; omega), List.length_map, nodes_len] at h
        cases e : i - a.size - b.size with
        | zero =>
          rw [e] at h
          cases h
          exact .inr (.inr ⟨_, _, rfl, by omega, by omega⟩)
        | succ j =>
          rw [e] at h
          cases h
theorem nodes_ch {t : Tr} {i : Nat} {x : Nd} (h : (nodes t)[i]? = some x) : x.2.length ≤ 2 ∧ ∀ c ∈ x.2, c < i := by
  rcases nodes_ok t i x h with h1 | ⟨a, h1, h2⟩ | ⟨a, b, h1, h2, h3⟩ <;> rw [h1] <;> simp <;> omega
theorem is_non {u : Mu} {t : Nat} : isiS u t .non = some false := rfl
theorem is_bl {u : Mu} {t : Nat} {b : Bool} : isiS u t (.bl b) = some (t == 2 || t == 3) := rfl
theorem is_int {u : Mu} {t : Nat} {b : Int} : isiS u t (.int b) = some (t == 3) := rfl
theorem is_lst {u : Mu} {t : Nat} {b : List Dt} : isiS u t (.lst b) = some (t == 1) := rfl
theorem eq_nn {u : Mu} : cmpS u .Eq .non .non = some true := rfl
theorem in_bl (i : Bool) : isN (.bl i) = false := rfl
theorem in_lst (i : List Dt) : isN (.lst i) = false := rfl
theorem nodes_shift0 (t : Tr) : (nodes t).map (shiftN 0) = nodes t := by
  have : shiftN 0 = id := by
    funext x
    obtain ⟨a, b⟩ := x
    simp [shiftN]
  rw [this, List.map_id]
/-- what the law's own walk over children gathers -/
def gath : List Tr → List Nd → List Nat → List Nd × List Nat
  | [], f, ps => (f, ps)
  | t :: ts, f, ps => gath ts (f ++ (nodes t).map (shiftN f.length)) (ps ++ [f.length + t.size - 1])
def gStep (s : List Nd × List Nat) (t : Tr) : List Nd × List Nat := (s.1 ++ (nodes t).map (shiftN s.1.length), s.2 ++ [s.1.length + t.size - 1])
def chOf : Tr → List Tr
  | .n0 _ => []
  | .n1 _ a => [a]
  | .n2 _ a b => [a, b]
def letOf : Tr → Int
  | .n0 l => l
  | .n1 l _ => l
  | .n2 l _ _ => l
theorem treeD_eq (t : Tr) : treeD t = .tup [.int (letOf t), .tup ((chOf t).map treeD)] := by cases t <;> rfl
theorem nodes_eq (t : Tr) : nodes t = ((chOf t).foldl gStep ([], [])).1 ++ [(letOf t, ((chOf t).foldl gStep ([], [])).2)] := by
  cases t with
  | n0 l => rfl
  | n1 l a =>
    show _ = ([] ++ (nodes a).map (shiftN 0)) ++ [(l, [] ++ [0 + a.size - 1])]
    rw [nodes_shift0]
    simp [nodes]
  | n2 l a b =>
    show _ = (([] ++ (nodes a).map (shiftN 0)) ++ (nodes b).map (shiftN ([] ++ (nodes a).map (shiftN 0)).length)) ++ [(l, ([] ++ [0 + a.size - 1]) ++ [([] ++ (nodes a).map (shiftN 0)).length + b.size - 1])]
    rw [nodes_shift0]
    simp [nodes, nodes_len]
theorem chOf_size {t a : Tr} (h : a ∈ chOf t) : a.size < t.size := by
  cases t with
  | n0 l => cases h
  | n1 l b =>
    simp only [chOf, List.mem_singleton] at h
    subst h
    simp only [Tr.size]
    omega
  | n2 l b c =>
    simp only [chOf, List.mem_cons, List.not_mem_nil, or_false] at h
    simp only [Tr.size]
    rcases h with h | h <;> subst h <;> omega
theorem gStep_len : ∀ (ts : List Tr) (s : List Nd × List Nat), (ts.foldl gStep s).1.length = s.1.length + (ts.map Tr.size).sum ∧ (ts.foldl gStep s).2.length = s.2.length + ts.length
  | [], s => by simp
  | t :: ts, s => by
    have := gStep_len ts (gStep s t)
    rw [List.foldl_cons, this.1, this.2]
    simp only [gStep, List.length_append, List.length_map, nodes_len, List.map_cons, List.sum_cons, List.length_cons, List.length_nil]
    omega
theorem chOf_sum (t : Tr) : (((chOf t).map Tr.size).sum) + 1 = t.size ∧ (chOf t).length ≤ 2 := by
  cases t <;> simp [chOf, Tr.size]
theorem sum_take (ts : List Tr) (i : Nat) : ((ts.take i).map Tr.size).sum ≤ (ts.map Tr.size).sum := by
  induction ts generalizing i with
  | nil => simp
  | cons t ts ih =>
    cases i with
    | zero => simp
    | succ i =>
      have := ih i
      simp only [List.take_succ_cons, List.map_cons, List.sum_cons]
      omega
theorem fm_filter {α β : Type} (p : α → Bool) (f : α → β) : ∀ xs : List α, xs.filterMap (fun x => if p x = true then some (f x) else none) = (xs.filter p).map f
  | [] => rfl
  | x :: xs => by
    rw [List.filterMap_cons, fm_filter p f xs, List.filter_cons]
    cases p x <;> simp
end Ob
/-! part Xa -/
namespace Ob
open PySem L2
local macro_rules | `(tactic| walk_at "wp") => `(tactic| simp only [q_wpE_c, q_wpE_slot, q_wpE_bin, q_wpE_neg, q_wpE_not, q_wpE_or, q_wpE_and, q_wpE_cmp, q_wpE_chain, q_wpE_ife, q_wpE_tup, q_wpE_lst, q_wpE_ix, q_wpE_cut, q_att, blD_eq, mvD_eq, ndD_eq, sq_pD, sq_lm, is_non, is_bl, is_int, is_lst, eq_nn, in_bl, in_lst, decide_true, am_1, am_2, am_3, ar_7, ar_2, ar_8, ar_9, ag_7, ag_2, ag_10, ag_8, ag_9, ck_n, ck_n1, cl_i, cl_i1, cl_n1, ci_t, ci_l, cn_t, cn_l, q_wpE_len, q_wpE_list, q_wpE_tuple, q_wpE_sum, q_wpE_min1, q_wpE_min2, q_wpE_int, q_wpE_all, q_wpE_sset, q_wpE_mdict, q_wpE_isi, q_wpE_pop, q_wpE_app, q_wpE_exd, q_wpE_call, q_wpE_meth, q_wpE_new, q_wpE_fz, q_wpE_bor, q_wpA_nil, q_wpA_cons, q_wpA_star, q_wpT_tv, q_wpT_tnot, q_wpT_tand, q_wpT_tor, q_wpT_noE, q_wpO_noE, q_wpO_tv, q_wpI_iSeq, q_wpI_iRan, q_wpI_iRan2, q_wpI_iEnum, q_wpI_iZip, q_wpI_iRev, e_lc, wpG, wpG.wpGs, wipeD, List.map_cons, List.map_nil, List.append_nil, List.cons_append, List.nil_append, List.replicate, List.length_cons, List.length_nil, List.length_map, Nat.reduceSub, Nat.reduceAdd, tN, enum_map,
  List.set_cons_zero, List.set_cons_succ, List.getElem?_cons_zero, List.getElem?_cons_succ, Option.some.injEq, Dt.int.injEq, Dt.bl.injEq, Dt.lst.injEq, Dt.tup.injEq, Dt.ins.injEq, Dt.adr.injEq, Cell.lst.injEq, Cell.ins.injEq, exists_eq_right, exists_eq_right', Prod.mk.injEq, exists_eq_left', exists_eq_left, exists_and_left, exists_eq', exists_eq, true_and, and_true, List.cons.injEq, and_self, and_assoc,
  bk_addi, bk_sub, bk_mul, bk_mod, bk_div, bk_pow, bk_cat, bk_rep, nk_f, nk_t, sq_lst, sq_tup, sq_pr, ls_lst, fz_lst, fz_tup, ts_non, ts_bl, ts_pr, cm_lt, cm_le, cm_gt, cm_ge, cm_eq, cm_ne, cm_eqb, cm_neb, cm_is, cm_isn, in_non, in_int, in_pr, in_o, in_oi, gt_hd, pt_hd, dl_hd,
  at_0, at_1, at_2, at_3, at_4, oD_n, oD_s, oi_n, oi_s, Option.isNone_none, Option.isNone_some, lim_0, lim_1, lim_2, lim_3, lim_4, lim_5, lim_6, lim_7, Int.natCast_nonneg, Int.ofNat_le, Bool.not_true, Bool.true_or, Bool.false_or, Bool.or_true, Bool.or_false, Bool.true_and, Bool.false_and, Bool.and_true, Bool.and_false, List.contains_cons, List.contains_nil, Nat.reduceBEq, Bool.not_false, Bool.true_eq_false, Bool.false_eq_true, false_imp_iff, true_imp_iff, reduceCtorEq, forall_const, Nat.reduceLT, Nat.reduceLeDiff, eq_self, forall_eq', forall_eq])
local macro_rules | `(tactic| walk_at "go") => `(tactic| (try dsimp only); (try walk_at "wp"); repeat (first | refine seq_i ?_ | (refine asg_i ?_; try walk_at "wp") | (refine drop_i ?_; try walk_at "wp") | (refine ret_i ?_; try walk_at "wp") | (refine forr_i ?_; try walk_at "wp") | (refine iff_i ?_; try walk_at "wp") | (refine seti_i ?_; try walk_at "wp") | (refine augi_i ?_; try walk_at "wp") | (refine seta_i ?_; try walk_at "wp") | (refine skip_i ?_; try walk_at "wp")))
/-! Plain mathematics: order, least pairs. -/
theorem lex_irrefl : ∀ a : List Int, lexL a a = false
  | [] => rfl
  | x :: xs => by
    show (if x = x then lexL xs xs else decide (x < x)) = false
    rw [if_pos rfl, lex_irrefl xs]
theorem lex_trans : ∀ {a b c : List Int}, lexL a b = true → lexL b c = true → lexL a c = true
  | [], [], _, h, _ => by cases h
  | [], _ :: _, [], _, h => by cases h
  | [], _ :: _, _ :: _, _, _ => rfl
  | _ :: _, [], _, h, _ => by cases h
  | _ :: _, _ :: _, [], _, h => by cases h
  | x :: xs, y :: ys, z :: zs, h1, h2 => by
    have h1 : (if x = y then lexL xs ys else decide (x < y)) = true := h1
    have h2 : (if y = z then lexL ys zs else decide (y < z)) = true := h2
    show (if x = z then lexL xs zs else decide (x < z)) = true
    by_cases e1 : x = y
    · rw [if_pos e1] at h1
      by_cases e2 : y = z
      · rw [if_pos e2] at h2
        rw [if_pos (e1.trans e2)]
        exact lex_trans h1 h2
      · rw [if_neg e2] at h2
        rw [if_neg (by rw [e1]; exact e2), e1]
        exact h2
    · rw [if_neg e1] at h1
      have h1 := of_decide_eq_true h1
      by_cases e2 : y = z
      · rw [if_neg (by rw [← e2]; exact e1), ← e2]
        exact decide_eq_true h1
      · rw [if_neg e2] at h2
        have h2 := of_decide_eq_true h2
        rw [if_neg (by omega)]
        exact decide_eq_true (by omega)
theorem lex_total : ∀ {a b : List Int}, lexL a b = false → lexL b a = false → a = b
  | [], [], _, _ => rfl
  | [], _ :: _, h, _ => by cases h
  | _ :: _, [], _, h => by cases h
  | x :: xs, y :: ys, h1, h2 => by
    have h1 : (if x = y then lexL xs ys else decide (x < y)) = false := h1
    have h2 : (if y = x then lexL ys xs else decide (y < x)) = false := h2
    by_cases e1 : x = y
    · rw [if_pos e1] at h1
      rw [if_pos e1.symm] at h2
      rw [e1, lex_total h1 h2]
    · rw [if_neg e1] at h1
      rw [if_neg (fun e => e1 e.symm)] at h2
      have h1 := of_decide_eq_false h1
      have h2 := of_decide_eq_false h2
      omega
theorem pr_irrefl (p : Pr) : prLt p p = false := by
  unfold prLt
  rw [if_pos rfl, lex_irrefl]
theorem pr_trans {a b c : Pr} (h1 : prLt a b = true) (h2 : prLt b c = true) : prLt a c = true := by
  unfold prLt at *
  by_cases e1 : a.1 = b.1
  · rw [if_pos e1] at h1
    by_cases e2 : b.1 = c.1
    · rw [if_pos e2] at h2
      rw [if_pos (e1.trans e2)]
      exact lex_trans h1 h2
    · rw [if_neg e2] at h2
      rw [if_neg (by rw [e1]; exact e2), e1]
      exact h2
  · rw [if_neg e1] at h1
    have h1 := of_decide_eq_true h1
    by_cases e2 : b.1 = c.1
    · rw [if_neg (by rw [← e2]; exact e1), ← e2]
      exact decide_eq_true h1
    · rw [if_neg e2] at h2
      have h2 := of_decide_eq_true h2
      rw [if_neg (by omega)]
      exact decide_eq_true (by omega)
theorem pr_total {a b : Pr} (h1 : prLt a b = false) (h2 : prLt b a = false) : a = b := by
  unfold prLt at *
  by_cases e1 : a.1 = b.1
  · rw [if_pos e1] at h1
    rw [if_pos e1.symm] at h2
    exact Prod.ext e1 (lex_total h1 h2)
  · rw [if_neg e1] at h1
    rw [if_neg (fun e => e1 e.symm)] at h2
    have h1 := of_decide_eq_false h1
    have h2 := of_decide_eq_false h2
    omega
/-- not greater -/
theorem pr_le_trans {a b c : Pr} (h1 : prLt b a = false) (h2 : prLt c b = false) : prLt c a = false := by
  cases h : prLt c a with
  | false => rfl
  | true =>
    cases h3 : prLt a b with
    | true =>
      rw [pr_trans h h3] at h2
      cases h2
    | false =>
      have e := pr_total h3 h1
      rw [e] at h
      rw [h] at h2
      cases h2
def IsMin (S : Pr → Prop) : Option Pr → Prop
  | none => ∀ p, ¬ S p
  | some p => S p ∧ ∀ q, S q → prLt q p = false
theorem IsMin.uniq {S : Pr → Prop} {a b : Option Pr} (ha : IsMin S a) (hb : IsMin S b) : a = b := by
  cases a with
  | none =>
    cases b with
    | none => rfl
    | some y => exact absurd hb.1 (ha y)
  | some x =>
    cases b with
    | none => exact absurd ha.1 (hb x)
    | some y => rw [pr_total (hb.2 x ha.1) (ha.2 y hb.1)]
theorem IsMin.congr {S T : Pr → Prop} {a : Option Pr} (h : ∀ p, S p ↔ T p) (ha : IsMin S a) : IsMin T a := by
  have e : S = T := funext fun p => propext (h p)
  rw [← e]
  exact ha
theorem better_none (b : Option Pr) : better b none = b := by cases b <;> rfl
theorem IsMin.better {S T : Pr → Prop} {a b : Option Pr} (ha : IsMin S a) (hb : IsMin T b) : IsMin (fun p => S p ∨ T p) (better a b) := by
  cases a with
  | none =>
    cases b with
    | none => exact fun p h => h.elim (ha p) (hb p)
    | some y => exact ⟨.inr hb.1, fun q h => h.elim (fun h => absurd h (ha q)) (hb.2 q)⟩
  | some x =>
    cases b with
    | none => exact ⟨.inl ha.1, fun q h => h.elim (ha.2 q) (fun h => absurd h (hb q))⟩
    | some y =>
      show IsMin _ (some (prMin x y))
      unfold prMin
      by_cases h : prLt y x = true
      · rw [if_pos h]
        have hxy : prLt x y = false := by
          cases e : prLt x y with
          | false => rfl
          | true =>
            have := pr_trans h e
            rw [pr_irrefl] at this
            cases this
        exact ⟨.inr hb.1, fun q hq => hq.elim (fun hq => pr_le_trans hxy (ha.2 q hq)) (hb.2 q)⟩
      · rw [if_neg h]
        have h2 : prLt y x = false := by simpa using h
        exact ⟨.inl ha.1, fun q hq => hq.elim (ha.2 q) (fun hq => pr_le_trans h2 (hb.2 q hq))⟩
theorem IsMin.fold {α : Type} {g : α → Option Pr} {T : α → Pr → Prop} : ∀ (xs : List α) {S : Pr → Prop} {b : Option Pr}, IsMin S b → (∀ x ∈ xs, IsMin (T x) (g x)) → IsMin (fun p => S p ∨ ∃ x ∈ xs, T x p) (xs.foldl (fun b x => Ob.better b (g x)) b)
  | [], S, b, hb, _ => hb.congr fun p => by simp
  | x :: xs, S, b, hb, h => by
    rw [List.foldl_cons]
    refine (IsMin.fold xs (hb.better (h x List.mem_cons_self)) fun y hy => h y (List.mem_cons_of_mem _ hy)).congr fun p => ?_
    simp only [List.mem_cons, exists_eq_or_imp, or_assoc]
theorem IsMin.fold0 {α : Type} {g : α → Option Pr} {T : α → Pr → Prop} (xs : List α) (h : ∀ x ∈ xs, IsMin (T x) (g x)) : IsMin (fun p => ∃ x ∈ xs, T x p) (xs.foldl (fun b x => Ob.better b (g x)) none) :=
  (IsMin.fold xs (S := fun _ => False) (b := none) (fun _ h => h) h).congr fun p => by simp
theorem IsMin.one (o : Option Pr) : IsMin (fun p => o = some p) o := by
  cases o with
  | none => exact fun p h => by cases h
  | some x => exact ⟨rfl, fun q h => by cases h; exact pr_irrefl _⟩
/-- pairs of concatenations -/
theorem lex_app : ∀ {a a' b b' : List Int}, a.length = a'.length → lexL a' a = false → (a = a' → lexL b' b = false) → lexL (a' ++ b') (a ++ b) = false
  | [], [], b, b', _, _, h => h rfl
  | x :: a, x' :: a', b, b', hl, h1, h2 => by
    have h1 : (if x' = x then lexL a' a else decide (x' < x)) = false := h1
    show (if x' = x then lexL (a' ++ b') (a ++ b) else decide (x' < x)) = false
    by_cases e : x' = x
    · rw [if_pos e] at h1 ⊢
      exact lex_app (Nat.succ.inj hl) h1 fun e2 => h2 (by rw [e, e2])
    · rw [if_neg e] at h1 ⊢
      exact h1
/-- bigger parts, a bigger whole -/
theorem pr_app {a a' b b' : Pr} {k : Int} {l : List Int} (hl : a.2.length = a'.2.length) (hbl : b.2.length = b'.2.length) (h1 : prLt a' a = false) (h2 : prLt b' b = false) : prLt (a'.1 + b'.1 + k, a'.2 ++ (b'.2 ++ l)) (a.1 + b.1 + k, a.2 ++ (b.2 ++ l)) = false := by
  have c1 : a.1 ≤ a'.1 ∧ (a'.1 = a.1 → lexL a'.2 a.2 = false) := by
    unfold prLt at h1
    by_cases e : a'.1 = a.1
    · rw [if_pos e] at h1
      exact ⟨by omega, fun _ => h1⟩
    · rw [if_neg e] at h1
      have := of_decide_eq_false h1
      exact ⟨by omega, fun e2 => absurd e2 e⟩
  have c2 : b.1 ≤ b'.1 ∧ (b'.1 = b.1 → lexL b'.2 b.2 = false) := by
    unfold prLt at h2
    by_cases e : b'.1 = b.1
    · rw [if_pos e] at h2
      exact ⟨by omega, fun _ => h2⟩
    · rw [if_neg e] at h2
      have := of_decide_eq_false h2
      exact ⟨by omega, fun e2 => absurd e2 e⟩
  unfold prLt
  simp only
  by_cases e : a'.1 + b'.1 + k = a.1 + b.1 + k
  · rw [if_pos e]
    have e1 : a'.1 = a.1 := by omega
    have e2 : b'.1 = b.1 := by omega
    refine lex_app hl (c1.2 e1) fun _ => ?_
    exact lex_app hbl (c2.2 e2) fun _ => lex_irrefl l
  · rw [if_neg e]
    exact decide_eq_false (by omega)
end Ob
/-! part Xb -/
namespace Ob
open PySem L2
local macro_rules | `(tactic| walk_at "wp") => `(tactic| simp only [q_wpE_c, q_wpE_slot, q_wpE_bin, q_wpE_neg, q_wpE_not, q_wpE_or, q_wpE_and, q_wpE_cmp, q_wpE_chain, q_wpE_ife, q_wpE_tup, q_wpE_lst, q_wpE_ix, q_wpE_cut, q_att, blD_eq, mvD_eq, ndD_eq, sq_pD, sq_lm, is_non, is_bl, is_int, is_lst, eq_nn, in_bl, in_lst, decide_true, am_1, am_2, am_3, ar_7, ar_2, ar_8, ar_9, ag_7, ag_2, ag_10, ag_8, ag_9, ck_n, ck_n1, cl_i, cl_i1, cl_n1, ci_t, ci_l, cn_t, cn_l, q_wpE_len, q_wpE_list, q_wpE_tuple, q_wpE_sum, q_wpE_min1, q_wpE_min2, q_wpE_int, q_wpE_all, q_wpE_sset, q_wpE_mdict, q_wpE_isi, q_wpE_pop, q_wpE_app, q_wpE_exd, q_wpE_call, q_wpE_meth, q_wpE_new, q_wpE_fz, q_wpE_bor, q_wpA_nil, q_wpA_cons, q_wpA_star, q_wpT_tv, q_wpT_tnot, q_wpT_tand, q_wpT_tor, q_wpT_noE, q_wpO_noE, q_wpO_tv, q_wpI_iSeq, q_wpI_iRan, q_wpI_iRan2, q_wpI_iEnum, q_wpI_iZip, q_wpI_iRev, e_lc, wpG, wpG.wpGs, wipeD, List.map_cons, List.map_nil, List.append_nil, List.cons_append, List.nil_append, List.replicate, List.length_cons, List.length_nil, List.length_map, Nat.reduceSub, Nat.reduceAdd, tN, enum_map,
  List.set_cons_zero, List.set_cons_succ, List.getElem?_cons_zero, List.getElem?_cons_succ, Option.some.injEq, Dt.int.injEq, Dt.bl.injEq, Dt.lst.injEq, Dt.tup.injEq, Dt.ins.injEq, Dt.adr.injEq, Cell.lst.injEq, Cell.ins.injEq, exists_eq_right, exists_eq_right', Prod.mk.injEq, exists_eq_left', exists_eq_left, exists_and_left, exists_eq', exists_eq, true_and, and_true, List.cons.injEq, and_self, and_assoc,
  bk_addi, bk_sub, bk_mul, bk_mod, bk_div, bk_pow, bk_cat, bk_rep, nk_f, nk_t, sq_lst, sq_tup, sq_pr, ls_lst, fz_lst, fz_tup, ts_non, ts_bl, ts_pr, cm_lt, cm_le, cm_gt, cm_ge, cm_eq, cm_ne, cm_eqb, cm_neb, cm_is, cm_isn, in_non, in_int, in_pr, in_o, in_oi, gt_hd, pt_hd, dl_hd,
  at_0, at_1, at_2, at_3, at_4, oD_n, oD_s, oi_n, oi_s, Option.isNone_none, Option.isNone_some, lim_0, lim_1, lim_2, lim_3, lim_4, lim_5, lim_6, lim_7, Int.natCast_nonneg, Int.ofNat_le, Bool.not_true, Bool.true_or, Bool.false_or, Bool.or_true, Bool.or_false, Bool.true_and, Bool.false_and, Bool.and_true, Bool.and_false, List.contains_cons, List.contains_nil, Nat.reduceBEq, Bool.not_false, Bool.true_eq_false, Bool.false_eq_true, false_imp_iff, true_imp_iff, reduceCtorEq, forall_const, Nat.reduceLT, Nat.reduceLeDiff, eq_self, forall_eq', forall_eq])
local macro_rules | `(tactic| walk_at "go") => `(tactic| (try dsimp only); (try walk_at "wp"); repeat (first | refine seq_i ?_ | (refine asg_i ?_; try walk_at "wp") | (refine drop_i ?_; try walk_at "wp") | (refine ret_i ?_; try walk_at "wp") | (refine forr_i ?_; try walk_at "wp") | (refine iff_i ?_; try walk_at "wp") | (refine seti_i ?_; try walk_at "wp") | (refine augi_i ?_; try walk_at "wp") | (refine seta_i ?_; try walk_at "wp") | (refine skip_i ?_; try walk_at "wp")))
/-! Plain mathematics: rows over trees. -/
def objB (m : Mac) (l : Int) (ch : List Int) (lab : Nat) (root : Bool) : Bool := !decide ((l, ch, (lab : Int)) ∈ m.mv) || (root && !decide ((lab : Int) ∈ m.en))
theorem rowStep_eq (m : Mac) (pr : List Int) (f : Option Int) (l : Int) (root : Bool) (lab : Nat) (b : Option Pr) (x : Bl) :
    rowStep m pr f l root lab b x = better b ((charged (x.2.1 + pr.getD lab 0) (objB m l x.1 lab root) f).map fun c => (c, x.2.2 ++ [(lab : Int)])) := by
  unfold rowStep objB
  cases charged (x.2.1 + pr.getD lab 0) (!decide ((l, x.1, (lab : Int)) ∈ m.mv) || root && !decide ((lab : Int) ∈ m.en)) f with
  | none => exact (better_none b).symm
  | some c => rfl
/-- what a label's least pair ranges over -/
def RowS (m : Mac) (pr : List Int) (f : Option Int) (l : Int) (bl : List Bl) (root : Bool) (lab : Nat) (p : Pr) : Prop := ∃ x ∈ bl, charged (x.2.1 + pr.getD lab 0) (objB m l x.1 lab root) f = some p.1 ∧ p.2 = x.2.2 ++ [(lab : Int)]
theorem rowF_get {m : Mac} {pr : List Int} {f : Option Int} {l : Int} {bl : List Bl} {root : Bool} {lab : Nat} (h : lab < m.n) : (rowF m pr f l bl root)[lab]? = some (bl.foldl (rowStep m pr f l root lab) none) := by
  unfold rowF
  rw [List.getElem?_map, List.getElem?_range h]
  rfl
theorem row_min (m : Mac) (pr : List Int) (f : Option Int) (l : Int) (bl : List Bl) (root : Bool) (lab : Nat) : IsMin (RowS m pr f l bl root lab) (bl.foldl (rowStep m pr f l root lab) none) := by
  have e : rowStep m pr f l root lab = fun b x => better b ((charged (x.2.1 + pr.getD lab 0) (objB m l x.1 lab root) f).map fun c => (c, x.2.2 ++ [(lab : Int)])) := by
    funext b x
    exact rowStep_eq ..
  rw [e]
  refine (IsMin.fold0 bl (fun x hx => IsMin.one ((charged (x.2.1 + pr.getD lab 0) (objB m l x.1 lab root) f).map fun c => (c, x.2.2 ++ [(lab : Int)])))).congr fun p => ?_
  unfold RowS
  constructor
  · rintro ⟨x, hx, h⟩
    refine ⟨x, hx, ?_⟩
    cases e : charged (x.2.1 + pr.getD lab 0) (objB m l x.1 lab root) f with
    | none =>
      rw [e] at h
      cases h
    | some c =>
      rw [e] at h
      cases h
      exact ⟨rfl, rfl⟩
  · rintro ⟨x, hx, h1, h2⟩
    refine ⟨x, hx, ?_⟩
    rw [h1, ← h2]
    rfl
/-- below, from the children's rows -/
def bs (found : List Bl) (row : Row) : List Bl := found.flatMap fun x => row.zipIdx.filterMap (belowOne x)
def belowC (rows : List Row) : List Bl := rows.foldl bs [([], (0, []))]
theorem belowOf_eq (cs : List Nat) (done : List Row) : belowOf cs done = belowC (cs.map fun c => done.getD c []) := by
  unfold belowOf belowC
  rw [List.foldl_map]
  rfl
theorem mem_bs {found : List Bl} {row : Row} {e : Bl} : e ∈ bs found row ↔ ∃ x ∈ found, ∃ (i : Nat) (q : Pr), row[i]? = some (some q) ∧ e = (x.1 ++ [(i : Int)], (x.2.1 + q.1, x.2.2 ++ q.2)) := by
  unfold bs
  rw [List.mem_flatMap]
  constructor
  · rintro ⟨x, hx, he⟩
    rw [List.mem_filterMap] at he
    obtain ⟨⟨o, i⟩, hm, he⟩ := he
    rw [List.mem_zipIdx_iff_getElem?] at hm
    cases o with
    | none => cases he
    | some q => exact ⟨x, hx, i, q, hm, (Option.some.inj he).symm⟩
  · rintro ⟨x, hx, i, q, h1, rfl⟩
    exact ⟨x, hx, List.mem_filterMap.mpr ⟨(some q, i), List.mem_zipIdx_iff_getElem?.mpr h1, rfl⟩⟩
/-- the rows of a tree, each child's rows first -/
def doneT (m : Mac) (f : Option Int) : Tr → (Nat → List Int) → List Row
  | .n0 l, p => [rowF m (p 0) f l (belowC []) false]
  | .n1 l a, p => doneT m f a p ++ [rowF m (p a.size) f l (belowC [(doneT m f a p).getLastD []]) false]
  | .n2 l a b, p => doneT m f a p ++ doneT m f b (fun i => p (a.size + i)) ++ [rowF m (p (a.size + b.size)) f l (belowC [(doneT m f a p).getLastD [], (doneT m f b (fun i => p (a.size + i))).getLastD []]) false]
/-- the rows of the root's children -/
def chRows (m : Mac) (f : Option Int) : Tr → (Nat → List Int) → List Row
  | .n0 _, _ => []
  | .n1 _ a, p => [(doneT m f a p).getLastD []]
  | .n2 _ a b, p => [(doneT m f a p).getLastD [], (doneT m f b (fun i => p (a.size + i))).getLastD []]
def rowT (m : Mac) (f : Option Int) (root : Bool) (t : Tr) (p : Nat → List Int) : Row := rowF m (p (t.size - 1)) f (letOf t) (belowC (chRows m f t p)) root
theorem doneT_len (m : Mac) (f : Option Int) : ∀ (t : Tr) (p : Nat → List Int), (doneT m f t p).length = t.size
  | .n0 _, _ => rfl
  | .n1 _ a, p => by
    simp only [doneT, List.length_append, doneT_len m f a, List.length_cons, List.length_nil, Tr.size]
  | .n2 _ a b, p => by
    simp only [doneT, List.length_append, doneT_len m f a, doneT_len m f b, List.length_cons, List.length_nil, Tr.size]
theorem getLastD_app {α : Type} (xs : List α) (y d : α) : (xs ++ [y]).getLastD d = y := by
  rw [List.getLastD_eq_getLast?, List.getLast?_concat]
  rfl
theorem doneT_last (m : Mac) (f : Option Int) (t : Tr) (p : Nat → List Int) : (doneT m f t p).getLastD [] = rowT m f false t p := by
  cases t with
  | n0 l => rfl
  | n1 l a => exact getLastD_app ..
  | n2 l a b => exact getLastD_app ..
theorem getD_app_l {α : Type} {xs ys : List α} {i : Nat} {d : α} (h : i < xs.length) : (xs ++ ys).getD i d = xs.getD i d := by
  rw [List.getD_eq_getElem?_getD, List.getD_eq_getElem?_getD, List.getElem?_append_left h]
theorem getD_last {α : Type} {xs : List α} {d : α} : xs.getD (xs.length - 1) d = xs.getLastD d := by
  rw [List.getD_eq_getElem?_getD, List.getLastD_eq_getLast?, List.getLast?_eq_getElem?]
theorem zipIdx_app {α : Type} (xs ys : List α) (k : Nat) : (xs ++ ys).zipIdx k = xs.zipIdx k ++ ys.zipIdx (k + xs.length) := by
  rw [List.zipIdx_append, Nat.add_comm]
theorem map_shift (k j : Nat) (xs : List Nd) : (xs.map (shiftN j)).map (shiftN k) = xs.map (shiftN (k + j)) := by
  rw [List.map_map]
  congr 1
  funext x
  unfold shiftN
  simp only [Function.comp, List.map_map, Prod.mk.injEq, true_and]
  congr 1
  funext c
  simp
  omega
theorem getD_at1 {α : Type} {D A B : List α} {d : α} (h : 1 ≤ A.length) : (D ++ (A ++ B)).getD (A.length - 1 + D.length) d = A.getLastD d := by
  rw [List.getD_eq_getElem?_getD, List.getElem?_append_right (by omega), List.getElem?_append_left (by omega), show A.length - 1 + D.length - D.length = A.length - 1 by omega, ← List.getD_eq_getElem?_getD, getD_last]
theorem getD_at2 {α : Type} {D A B : List α} {d : α} (h : 1 ≤ B.length) : (D ++ (A ++ B)).getD (A.length + B.length - 1 + D.length) d = B.getLastD d := by
  rw [List.getD_eq_getElem?_getD, List.getElem?_append_right (by omega), List.getElem?_append_right (by omega), show A.length + B.length - 1 + D.length - D.length - A.length = B.length - 1 by omega, ← List.getD_eq_getElem?_getD, getD_last]
/-- the program's order of rows is the tree's -/
theorem done_eq (m : Mac) (P : List (List Int)) (f : Option Int) : ∀ (t : Tr) (k : Nat) (done : List Row), done.length = k → (((nodes t).map (shiftN k)).zipIdx k).foldl (doneStep m P f) done = done ++ doneT m f t fun i => P.getD (k + i) []
  | .n0 l, k, done, h => by
    simp only [nodes, List.map_cons, List.map_nil, List.zipIdx_cons, List.zipIdx_nil, List.foldl_cons, List.foldl_nil, doneT]
    rfl
  | .n1 l a, k, done, h => by
    have pa := size_pos a
    have ih := done_eq m P f a k done h
    simp only [nodes, List.map_append, zipIdx_app, List.foldl_append, ih, List.map_cons, List.map_nil, List.zipIdx_cons, List.zipIdx_nil, List.foldl_cons, List.foldl_nil, doneT]
    unfold doneStep
    rw [← List.append_assoc]
    congr 2
    simp only [shiftN, List.length_map, nodes_len, belowOf_eq, List.map_cons, List.map_nil]
    congr 3
    have e : a.size - 1 + k = k + (a.size - 1) := by omega
    rw [e, ← h, List.getD_eq_getElem?_getD, List.getElem?_append_right (by omega), Nat.add_sub_cancel_left, ← List.getD_eq_getElem?_getD, ← doneT_len m f a (fun i => P.getD (done.length + i) []), getD_last]
  | .n2 l a b, k, done, h => by
    have pa := size_pos a
    have pb := size_pos b
    have ih1 := done_eq m P f a k done h
    have ih2 := done_eq m P f b (k + a.size) (done ++ doneT m f a fun i => P.getD (k + i) []) (by rw [List.length_append, doneT_len, h])
    simp only [nodes, List.map_append, zipIdx_app, List.foldl_append, ih1, map_shift, List.length_map, nodes_len, ih2, List.map_cons, List.map_nil, List.zipIdx_cons, List.zipIdx_nil, List.foldl_cons, List.foldl_nil, doneT, List.length_append]
    unfold doneStep
    have ef : (fun i => P.getD (k + a.size + i) []) = fun i => P.getD (k + (a.size + i)) [] := by
      funext i
      rw [Nat.add_assoc]
    rw [ef]
    simp only [List.append_assoc]
    congr 3
    have l1 := doneT_len m f a (fun i => P.getD (k + i) [])
    have l2 := doneT_len m f b (fun i => P.getD (k + (a.size + i)) [])
    simp only [shiftN, belowOf_eq, List.map_cons, List.map_nil]
    generalize doneT m f a (fun i => P.getD (k + i) []) = A at l1
    generalize doneT m f b (fun i => P.getD (k + (a.size + i)) []) = B at l2
    rw [← l1, ← l2, ← h, getD_at1 (by omega), getD_at2 (by omega)]
theorem doneF_eq (m : Mac) (P : List (List Int)) (f : Option Int) (t : Tr) : doneF m P f (nodes t) = doneT m f t fun i => P.getD i [] := by
  have h := done_eq m P f t 0 [] rfl
  rw [nodes_shift0] at h
  simp only [Nat.zero_add, List.nil_append] at h
  exact h
theorem endsF_eq (m : Mac) (P : List (List Int)) (f : Option Int) (t : Tr) : endsF m P f (nodes t) = rowT m f true t fun i => P.getD i [] := by
  unfold endsF rowT
  rw [doneF_eq, nodes_len]
  simp only [belowOf_eq]
  cases t with
  | n0 l => rfl
  | n1 l a =>
    have pa := size_pos a
    have l1 := doneT_len m f a (fun i => P.getD i [])
    simp only [nodes, getLastD_app, List.map_cons, List.map_nil, chRows, doneT, letOf]
    generalize doneT m f a (fun i => P.getD i []) = A at l1
    rw [← l1, getD_app_l (by omega), getD_last]
  | n2 l a b =>
    have pa := size_pos a
    have pb := size_pos b
    have l1 := doneT_len m f a (fun i => P.getD i [])
    have l2 := doneT_len m f b (fun i => P.getD (a.size + i) [])
    simp only [nodes, getLastD_app, List.map_cons, List.map_nil, chRows, doneT, letOf]
    generalize doneT m f a (fun i => P.getD i []) = A at l1
    generalize doneT m f b (fun i => P.getD (a.size + i) []) = B at l2
    have e1 := getD_at1 (D := []) (A := A) (B := B ++ [rowF m (P.getD (a.size + b.size) []) f l (belowC [A.getLastD [], B.getLastD []]) false]) (d := []) (by omega)
    have e2 : (A ++ B ++ [rowF m (P.getD (a.size + b.size) []) f l (belowC [A.getLastD [], B.getLastD []]) false]).getD (A.length + B.length - 1) [] = B.getLastD [] := by
      rw [getD_app_l (by rw [List.length_append]; omega)]
      exact getD_at2 (D := []) (A := A) (B := B) (d := []) (by omega)
    simp only [List.nil_append, List.length_nil, Nat.add_zero, ← List.append_assoc] at e1
    rw [← l1, ← l2] at e1 e2 ⊢
    rw [e1, e2]
end Ob
/-! part Xc -/
namespace Ob
open PySem L2
local macro_rules | `(tactic| walk_at "wp") => `(tactic| simp only [q_wpE_c, q_wpE_slot, q_wpE_bin, q_wpE_neg, q_wpE_not, q_wpE_or, q_wpE_and, q_wpE_cmp, q_wpE_chain, q_wpE_ife, q_wpE_tup, q_wpE_lst, q_wpE_ix, q_wpE_cut, q_att, blD_eq, mvD_eq, ndD_eq, sq_pD, sq_lm, is_non, is_bl, is_int, is_lst, eq_nn, in_bl, in_lst, decide_true, am_1, am_2, am_3, ar_7, ar_2, ar_8, ar_9, ag_7, ag_2, ag_10, ag_8, ag_9, ck_n, ck_n1, cl_i, cl_i1, cl_n1, ci_t, ci_l, cn_t, cn_l, q_wpE_len, q_wpE_list, q_wpE_tuple, q_wpE_sum, q_wpE_min1, q_wpE_min2, q_wpE_int, q_wpE_all, q_wpE_sset, q_wpE_mdict, q_wpE_isi, q_wpE_pop, q_wpE_app, q_wpE_exd, q_wpE_call, q_wpE_meth, q_wpE_new, q_wpE_fz, q_wpE_bor, q_wpA_nil, q_wpA_cons, q_wpA_star, q_wpT_tv, q_wpT_tnot, q_wpT_tand, q_wpT_tor, q_wpT_noE, q_wpO_noE, q_wpO_tv, q_wpI_iSeq, q_wpI_iRan, q_wpI_iRan2, q_wpI_iEnum, q_wpI_iZip, q_wpI_iRev, e_lc, wpG, wpG.wpGs, wipeD, List.map_cons, List.map_nil, List.append_nil, List.cons_append, List.nil_append, List.replicate, List.length_cons, List.length_nil, List.length_map, Nat.reduceSub, Nat.reduceAdd, tN, enum_map,
  List.set_cons_zero, List.set_cons_succ, List.getElem?_cons_zero, List.getElem?_cons_succ, Option.some.injEq, Dt.int.injEq, Dt.bl.injEq, Dt.lst.injEq, Dt.tup.injEq, Dt.ins.injEq, Dt.adr.injEq, Cell.lst.injEq, Cell.ins.injEq, exists_eq_right, exists_eq_right', Prod.mk.injEq, exists_eq_left', exists_eq_left, exists_and_left, exists_eq', exists_eq, true_and, and_true, List.cons.injEq, and_self, and_assoc,
  bk_addi, bk_sub, bk_mul, bk_mod, bk_div, bk_pow, bk_cat, bk_rep, nk_f, nk_t, sq_lst, sq_tup, sq_pr, ls_lst, fz_lst, fz_tup, ts_non, ts_bl, ts_pr, cm_lt, cm_le, cm_gt, cm_ge, cm_eq, cm_ne, cm_eqb, cm_neb, cm_is, cm_isn, in_non, in_int, in_pr, in_o, in_oi, gt_hd, pt_hd, dl_hd,
  at_0, at_1, at_2, at_3, at_4, oD_n, oD_s, oi_n, oi_s, Option.isNone_none, Option.isNone_some, lim_0, lim_1, lim_2, lim_3, lim_4, lim_5, lim_6, lim_7, Int.natCast_nonneg, Int.ofNat_le, Bool.not_true, Bool.true_or, Bool.false_or, Bool.or_true, Bool.or_false, Bool.true_and, Bool.false_and, Bool.and_true, Bool.and_false, List.contains_cons, List.contains_nil, Nat.reduceBEq, Bool.not_false, Bool.true_eq_false, Bool.false_eq_true, false_imp_iff, true_imp_iff, reduceCtorEq, forall_const, Nat.reduceLT, Nat.reduceLeDiff, eq_self, forall_eq', forall_eq])
local macro_rules | `(tactic| walk_at "go") => `(tactic| (try dsimp only); (try walk_at "wp"); repeat (first | refine seq_i ?_ | (refine asg_i ?_; try walk_at "wp") | (refine drop_i ?_; try walk_at "wp") | (refine ret_i ?_; try walk_at "wp") | (refine forr_i ?_; try walk_at "wp") | (refine iff_i ?_; try walk_at "wp") | (refine seti_i ?_; try walk_at "wp") | (refine augi_i ?_; try walk_at "wp") | (refine seta_i ?_; try walk_at "wp") | (refine skip_i ?_; try walk_at "wp")))
/-! Plain mathematics: a tree's least pairs. -/
def ex (o : Bool) (f : Option Int) : Option Int := if o = true then f else some 0
theorem charged_ex (a : Int) (o : Bool) (f : Option Int) (c : Int) : charged a o f = some c ↔ ∃ e, ex o f = some e ∧ c = a + e := by
  unfold charged ex
  cases o with
  | false =>
    simp
    exact ⟨fun h => h.symm, fun h => h.symm⟩
  | true =>
    cases f with
    | none => simp
    | some f =>
      simp
      exact ⟨fun h => h.symm, fun h => h.symm⟩
def CsT (m : Mac) (f : Option Int) : Bool → Tr → (Nat → List Int) → Nat → Pr → Prop
  | root, .n0 l, p, lab, r => charged (0 + (p 0).getD lab 0) (objB m l [] lab root) f = some r.1 ∧ r.2 = [(lab : Int)]
  | root, .n1 l a, p, lab, r => ∃ (x : Nat) (r1 : Pr), x < m.n ∧ CsT m f false a p x r1 ∧ charged (0 + r1.1 + (p a.size).getD lab 0) (objB m l [(x : Int)] lab root) f = some r.1 ∧ r.2 = r1.2 ++ [(lab : Int)]
  | root, .n2 l a b, p, lab, r => ∃ (x y : Nat) (r1 r2 : Pr), x < m.n ∧ y < m.n ∧ CsT m f false a p x r1 ∧ CsT m f false b (fun i => p (a.size + i)) y r2 ∧
      charged (0 + r1.1 + r2.1 + (p (a.size + b.size)).getD lab 0) (objB m l [(x : Int), (y : Int)] lab root) f = some r.1 ∧ r.2 = r1.2 ++ r2.2 ++ [(lab : Int)]
theorem cs_len {m : Mac} {f : Option Int} : ∀ (t : Tr) (root : Bool) (p : Nat → List Int) (lab : Nat) (r : Pr), CsT m f root t p lab r → r.2.length = t.size
  | .n0 l, root, p, lab, r, h => by
    rw [h.2]
    rfl
  | .n1 l a, root, p, lab, r, ⟨x, r1, _, h1, _, h2⟩ => by
    rw [h2, List.length_append, cs_len a _ _ _ _ h1]
    rfl
  | .n2 l a b, root, p, lab, r, ⟨x, y, r1, r2, _, _, h1, h2, _, h3⟩ => by
    rw [h3, List.length_append, List.length_append, cs_len a _ _ _ _ h1, cs_len b _ _ _ _ h2]
    rfl
theorem IsMin.grow {S T : Pr → Prop} {o : Option Pr} (h : IsMin S o) (h1 : ∀ p, S p → T p) (h2 : ∀ q, T q → ∃ s, S s ∧ prLt q s = false) : IsMin T o := by
  cases o with
  | none =>
    intro q hq
    obtain ⟨s, hs, _⟩ := h2 q hq
    exact h s hs
  | some p =>
    refine ⟨h1 p h.1, fun q hq => ?_⟩
    obtain ⟨s, hs, hl⟩ := h2 q hq
    exact pr_le_trans (h.2 s hs) hl
theorem IsMin.some {S : Pr → Prop} {o : Option Pr} (h : IsMin S o) {q : Pr} (hq : S q) : ∃ p, o = some p ∧ S p ∧ prLt q p = false := by
  cases o with
  | none => exact absurd hq (h q)
  | some p => exact ⟨p, rfl, h.1, h.2 q hq⟩
theorem get_of_getD {r : Row} {x : Nat} {q : Pr} (h : r.getD x none = some q) : r[x]? = some (some q) := by
  rw [List.getD_eq_getElem?_getD] at h
  cases e : r[x]? with
  | none =>
    rw [e] at h
    cases h
  | some y =>
    rw [e] at h
    exact congrArg _ h
theorem getD_of_get {r : Row} {x : Nat} {q : Pr} (h : r[x]? = some (some q)) : r.getD x none = some q := by
  rw [List.getD_eq_getElem?_getD, h]
  rfl
theorem mem_below1 {ra : Row} {e : Bl} : e ∈ belowC [ra] ↔ ∃ (x : Nat) (q : Pr), ra[x]? = some (some q) ∧ e = ([(x : Int)], (0 + q.1, q.2)) := by
  show e ∈ bs [([], (0, []))] ra ↔ _
  rw [mem_bs]
  simp
theorem mem_below2 {ra rb : Row} {e : Bl} : e ∈ belowC [ra, rb] ↔ ∃ (x : Nat) (q : Pr) (y : Nat) (q2 : Pr), ra[x]? = some (some q) ∧ rb[y]? = some (some q2) ∧ e = ([(x : Int), (y : Int)], (0 + q.1 + q2.1, q.2 ++ q2.2)) := by
  show e ∈ bs (bs [([], (0, []))] ra) rb ↔ _
  rw [mem_bs]
  constructor
  · rintro ⟨z, hz, y, q2, h1, rfl⟩
    have hz2 : z ∈ belowC [ra] := hz
    rw [mem_below1] at hz2
    obtain ⟨x, q, h2, rfl⟩ := hz2
    exact ⟨x, q, y, q2, h2, h1, rfl⟩
  · rintro ⟨x, q, y, q2, h1, h2, rfl⟩
    exact ⟨([(x : Int)], (0 + q.1, q.2)), mem_below1.mpr ⟨x, q, h1, rfl⟩, y, q2, h2, rfl⟩
theorem rowT_len (m : Mac) (f : Option Int) (root : Bool) (t : Tr) (p : Nat → List Int) : (rowT m f root t p).length = m.n := by
  unfold rowT rowF
  rw [List.length_map, List.length_range]
theorem rowT_lt {m : Mac} {f : Option Int} {root : Bool} {t : Tr} {p : Nat → List Int} {x : Nat} {q : Option Pr} (h : (rowT m f root t p)[x]? = some q) : x < m.n := by
  have := (List.getElem?_eq_some_iff.mp h).1
  rw [rowT_len] at this
  exact this
theorem rowT_min (m : Mac) (f : Option Int) : ∀ (t : Tr) (root : Bool) (p : Nat → List Int) (lab : Nat), lab < m.n → IsMin (CsT m f root t p lab) ((rowT m f root t p).getD lab none)
  | .n0 l, root, p, lab, h => by
    have e : (rowT m f root (.n0 l) p).getD lab none = (belowC []).foldl (rowStep m (p 0) f l root lab) none := by
      rw [List.getD_eq_getElem?_getD]
      show (rowF m (p 0) f l (belowC []) root)[lab]?.getD none = _
      rw [rowF_get h]
      rfl
    rw [e]
    refine (row_min m (p 0) f l (belowC []) root lab).congr fun r => ?_
    show (∃ x ∈ [(([] : List Int), ((0 : Int), ([] : List Int)))], _) ↔ _
    simp only [List.mem_singleton, exists_eq_left, List.nil_append]
    rfl
  | .n1 l a, root, p, lab, h => by
    have e : (rowT m f root (.n1 l a) p).getD lab none = (belowC [rowT m f false a p]).foldl (rowStep m (p a.size) f l root lab) none := by
      rw [List.getD_eq_getElem?_getD]
      show (rowF m (p a.size) f l (belowC [(doneT m f a p).getLastD []]) root)[lab]?.getD none = _
      rw [rowF_get h, doneT_last]
      rfl
    rw [e]
    refine (row_min m (p a.size) f l _ root lab).grow ?_ ?_
    · rintro r ⟨z, hz, h1, h2⟩
      rw [mem_below1] at hz
      obtain ⟨x, q, hx, rfl⟩ := hz
      have hxn := rowT_lt hx
      have ih := rowT_min m f a false p x hxn
      rw [getD_of_get hx] at ih
      exact ⟨x, q, hxn, ih.1, h1, h2⟩
    · rintro r ⟨x, r1, hx, hr1, h1, h2⟩
      obtain ⟨q, hq, hqs, hle⟩ := (rowT_min m f a false p x hx).some hr1
      obtain ⟨e2, he, hc⟩ := (charged_ex _ _ _ _).mp h1
      refine ⟨(0 + q.1 + (p a.size).getD lab 0 + e2, q.2 ++ [(lab : Int)]), ⟨_, mem_below1.mpr ⟨x, q, get_of_getD hq, rfl⟩, (charged_ex _ _ _ _).mpr ⟨e2, he, rfl⟩, rfl⟩, ?_⟩
      have key := pr_app (a := q) (a' := r1) (b := (0, [])) (b' := (0, [])) (k := (p a.size).getD lab 0 + e2) (l := [(lab : Int)]) (by rw [cs_len a _ _ _ _ hqs, cs_len a _ _ _ _ hr1]) rfl hle (pr_irrefl _)
      have e3 : r = (r1.1 + 0 + ((p a.size).getD lab 0 + e2), r1.2 ++ ([] ++ [(lab : Int)])) := Prod.ext (by rw [hc]; omega) h2
      have e4 : (0 + q.1 + (p a.size).getD lab 0 + e2, q.2 ++ [(lab : Int)]) = (q.1 + 0 + ((p a.size).getD lab 0 + e2), q.2 ++ ([] ++ [(lab : Int)])) := Prod.ext (by simp only; omega) rfl
      rw [e3, e4]
      exact key
  | .n2 l a b, root, p, lab, h => by
    have e : (rowT m f root (.n2 l a b) p).getD lab none = (belowC [rowT m f false a p, rowT m f false b (fun i => p (a.size + i))]).foldl (rowStep m (p (a.size + b.size)) f l root lab) none := by
      rw [List.getD_eq_getElem?_getD]
      show (rowF m (p (a.size + b.size)) f l (belowC [(doneT m f a p).getLastD [], (doneT m f b (fun i => p (a.size + i))).getLastD []]) root)[lab]?.getD none = _
      rw [rowF_get h, doneT_last, doneT_last]
      rfl
    rw [e]
    refine (row_min m (p (a.size + b.size)) f l _ root lab).grow ?_ ?_
    · rintro r ⟨z, hz, h1, h2⟩
      rw [mem_below2] at hz
      obtain ⟨x, q, y, q2, hx, hy, rfl⟩ := hz
      have hxn := rowT_lt hx
      have hyn := rowT_lt hy
      have ih := rowT_min m f a false p x hxn
      have ih2 := rowT_min m f b false (fun i => p (a.size + i)) y hyn
      rw [getD_of_get hx] at ih
      rw [getD_of_get hy] at ih2
      exact ⟨x, y, q, q2, hxn, hyn, ih.1, ih2.1, h1, h2⟩
    · rintro r ⟨x, y, r1, r2, hx, hy, hr1, hr2, h1, h2⟩
      obtain ⟨q, hq, hqs, hle⟩ := (rowT_min m f a false p x hx).some hr1
      obtain ⟨q2, hq2, hqs2, hle2⟩ := (rowT_min m f b false _ y hy).some hr2
      obtain ⟨e2, he, hc⟩ := (charged_ex _ _ _ _).mp h1
      refine ⟨(0 + q.1 + q2.1 + (p (a.size + b.size)).getD lab 0 + e2, q.2 ++ q2.2 ++ [(lab : Int)]), ⟨_, mem_below2.mpr ⟨x, q, y, q2, get_of_getD hq, get_of_getD hq2, rfl⟩, (charged_ex _ _ _ _).mpr ⟨e2, he, rfl⟩, rfl⟩, ?_⟩
      have key := pr_app (a := q) (a' := r1) (b := q2) (b' := r2) (k := (p (a.size + b.size)).getD lab 0 + e2) (l := [(lab : Int)]) (by rw [cs_len a _ _ _ _ hqs, cs_len a _ _ _ _ hr1]) (by rw [cs_len b _ _ _ _ hqs2, cs_len b _ _ _ _ hr2]) hle hle2
      have e3 : r = (r1.1 + r2.1 + ((p (a.size + b.size)).getD lab 0 + e2), r1.2 ++ (r2.2 ++ [(lab : Int)])) := Prod.ext (by rw [hc]; simp only; omega) (by rw [h2, List.append_assoc])
      have e4 : (0 + q.1 + q2.1 + (p (a.size + b.size)).getD lab 0 + e2, q.2 ++ q2.2 ++ [(lab : Int)]) = (q.1 + q2.1 + ((p (a.size + b.size)).getD lab 0 + e2), q.2 ++ (q2.2 ++ [(lab : Int)])) := Prod.ext (by simp only; omega) (by simp)
      rw [e3, e4]
      exact key
/-- the least pair over the root's labels -/
theorem ends_min (m : Mac) (f : Option Int) (t : Tr) (p : Nat → List Int) : IsMin (fun r => ∃ lab, lab < m.n ∧ CsT m f true t p lab r) ((rowT m f true t p).foldl better none) := by
  have e : (rowT m f true t p).foldl better none = (List.range m.n).foldl (fun b lab => better b ((rowT m f true t p).getD lab none)) none := by
    have h : (List.range m.n).map (fun lab => (rowT m f true t p).getD lab none) = rowT m f true t p := by
      apply List.ext_getElem?
      intro i
      rw [List.getElem?_map]
      by_cases hi : i < m.n
      · rw [List.getElem?_range hi]
        have hl : i < (rowT m f true t p).length := by rw [rowT_len]; exact hi
        rw [List.getElem?_eq_getElem hl]
        simp [List.getD_eq_getElem?_getD, hl]
      · rw [List.getElem?_eq_none (by rw [List.length_range]; omega), List.getElem?_eq_none (by rw [rowT_len]; omega)]
        rfl
    conv => lhs; rw [← h]
    rw [List.foldl_map]
  rw [e]
  refine (IsMin.fold0 (List.range m.n) fun lab hl => rowT_min m f t true p lab (List.mem_range.mp hl)).congr fun r => ?_
  simp only [List.mem_range]
end Ob
/-! part Xd -/
namespace Ob
open PySem L2
local macro_rules | `(tactic| walk_at "wp") => `(tactic| simp only [q_wpE_c, q_wpE_slot, q_wpE_bin, q_wpE_neg, q_wpE_not, q_wpE_or, q_wpE_and, q_wpE_cmp, q_wpE_chain, q_wpE_ife, q_wpE_tup, q_wpE_lst, q_wpE_ix, q_wpE_cut, q_att, blD_eq, mvD_eq, ndD_eq, sq_pD, sq_lm, is_non, is_bl, is_int, is_lst, eq_nn, in_bl, in_lst, decide_true, am_1, am_2, am_3, ar_7, ar_2, ar_8, ar_9, ag_7, ag_2, ag_10, ag_8, ag_9, ck_n, ck_n1, cl_i, cl_i1, cl_n1, ci_t, ci_l, cn_t, cn_l, q_wpE_len, q_wpE_list, q_wpE_tuple, q_wpE_sum, q_wpE_min1, q_wpE_min2, q_wpE_int, q_wpE_all, q_wpE_sset, q_wpE_mdict, q_wpE_isi, q_wpE_pop, q_wpE_app, q_wpE_exd, q_wpE_call, q_wpE_meth, q_wpE_new, q_wpE_fz, q_wpE_bor, q_wpA_nil, q_wpA_cons, q_wpA_star, q_wpT_tv, q_wpT_tnot, q_wpT_tand, q_wpT_tor, q_wpT_noE, q_wpO_noE, q_wpO_tv, q_wpI_iSeq, q_wpI_iRan, q_wpI_iRan2, q_wpI_iEnum, q_wpI_iZip, q_wpI_iRev, e_lc, wpG, wpG.wpGs, wipeD, List.map_cons, List.map_nil, List.append_nil, List.cons_append, List.nil_append, List.replicate, List.length_cons, List.length_nil, List.length_map, Nat.reduceSub, Nat.reduceAdd, tN, enum_map,
  List.set_cons_zero, List.set_cons_succ, List.getElem?_cons_zero, List.getElem?_cons_succ, Option.some.injEq, Dt.int.injEq, Dt.bl.injEq, Dt.lst.injEq, Dt.tup.injEq, Dt.ins.injEq, Dt.adr.injEq, Cell.lst.injEq, Cell.ins.injEq, exists_eq_right, exists_eq_right', Prod.mk.injEq, exists_eq_left', exists_eq_left, exists_and_left, exists_eq', exists_eq, true_and, and_true, List.cons.injEq, and_self, and_assoc,
  bk_addi, bk_sub, bk_mul, bk_mod, bk_div, bk_pow, bk_cat, bk_rep, nk_f, nk_t, sq_lst, sq_tup, sq_pr, ls_lst, fz_lst, fz_tup, ts_non, ts_bl, ts_pr, cm_lt, cm_le, cm_gt, cm_ge, cm_eq, cm_ne, cm_eqb, cm_neb, cm_is, cm_isn, in_non, in_int, in_pr, in_o, in_oi, gt_hd, pt_hd, dl_hd,
  at_0, at_1, at_2, at_3, at_4, oD_n, oD_s, oi_n, oi_s, Option.isNone_none, Option.isNone_some, lim_0, lim_1, lim_2, lim_3, lim_4, lim_5, lim_6, lim_7, Int.natCast_nonneg, Int.ofNat_le, Bool.not_true, Bool.true_or, Bool.false_or, Bool.or_true, Bool.or_false, Bool.true_and, Bool.false_and, Bool.and_true, Bool.and_false, List.contains_cons, List.contains_nil, Nat.reduceBEq, Bool.not_false, Bool.true_eq_false, Bool.false_eq_true, false_imp_iff, true_imp_iff, reduceCtorEq, forall_const, Nat.reduceLT, Nat.reduceLeDiff, eq_self, forall_eq', forall_eq])
local macro_rules | `(tactic| walk_at "go") => `(tactic| (try dsimp only); (try walk_at "wp"); repeat (first | refine seq_i ?_ | (refine asg_i ?_; try walk_at "wp") | (refine drop_i ?_; try walk_at "wp") | (refine ret_i ?_; try walk_at "wp") | (refine forr_i ?_; try walk_at "wp") | (refine iff_i ?_; try walk_at "wp") | (refine seti_i ?_; try walk_at "wp") | (refine augi_i ?_; try walk_at "wp") | (refine seta_i ?_; try walk_at "wp") | (refine skip_i ?_; try walk_at "wp")))
/-! Plain mathematics: what a labelling costs. -/
def objI (m : Mac) (l : Int) (ch : List Int) (lab : Int) (root : Bool) : Bool := !decide ((l, ch, lab) ∈ m.mv) || (root && !decide (lab ∈ m.en))
def oneN (b : Bool) : Nat := if b = true then 1 else 0
def Ob_ (m : Mac) : Bool → Tr → (Nat → Int) → Nat
  | root, .n0 l, lb => oneN (objI m l [] (lb 0) root)
  | root, .n1 l a, lb => Ob_ m false a lb + oneN (objI m l [lb (a.size - 1)] (lb a.size) root)
  | root, .n2 l a b, lb => Ob_ m false a lb + Ob_ m false b (fun i => lb (a.size + i)) + oneN (objI m l [lb (a.size - 1), lb (a.size + (b.size - 1))] (lb (a.size + b.size)) root)
def Wt : Tr → (Nat → List Int) → (Nat → Int) → Int
  | .n0 _, p, lb => (p 0).getD (lb 0).toNat 0
  | .n1 _ a, p, lb => Wt a p lb + (p a.size).getD (lb a.size).toNat 0
  | .n2 _ a b, p, lb => Wt a p lb + Wt b (fun i => p (a.size + i)) (fun i => lb (a.size + i)) + (p (a.size + b.size)).getD (lb (a.size + b.size)).toNat 0
theorem Ob_congr {m : Mac} : ∀ {t : Tr} {root : Bool} {lb lb' : Nat → Int}, (∀ i, i < t.size → lb i = lb' i) → Ob_ m root t lb = Ob_ m root t lb'
  | .n0 l, root, lb, lb', h => by
    unfold Ob_
    rw [h 0 (Nat.lt_succ_self 0)]
  | .n1 l a, root, lb, lb', h => by
    have pa := size_pos a
    simp only [Tr.size] at h
    unfold Ob_
    rw [Ob_congr (t := a) (fun i hi => h i (by omega)), h (a.size - 1) (by omega), h a.size (by omega)]
  | .n2 l a b, root, lb, lb', h => by
    have pa := size_pos a
    have pb := size_pos b
    simp only [Tr.size] at h
    unfold Ob_
    rw [Ob_congr (t := a) (fun i hi => h i (by omega)), Ob_congr (t := b) (lb := fun i => lb (a.size + i)) (lb' := fun i => lb' (a.size + i)) (fun i hi => h (a.size + i) (by omega)), h (a.size - 1) (by omega), h (a.size + (b.size - 1)) (by omega), h (a.size + b.size) (by omega)]
theorem Wt_congr : ∀ {t : Tr} {p : Nat → List Int} {lb lb' : Nat → Int}, (∀ i, i < t.size → lb i = lb' i) → Wt t p lb = Wt t p lb'
  | .n0 l, p, lb, lb', h => by
    unfold Wt
    rw [h 0 (Nat.lt_succ_self 0)]
  | .n1 l a, p, lb, lb', h => by
    simp only [Tr.size] at h
    unfold Wt
    rw [Wt_congr (t := a) (fun i hi => h i (by omega)), h a.size (by omega)]
  | .n2 l a b, p, lb, lb', h => by
    simp only [Tr.size] at h
    unfold Wt
    rw [Wt_congr (t := a) (fun i hi => h i (by omega)), Wt_congr (t := b) (lb := fun i => lb (a.size + i)) (lb' := fun i => lb' (a.size + i)) (fun i hi => h (a.size + i) (by omega)), h (a.size + b.size) (by omega)]
/-- a cost, from a weight and a count of objections -/
def CoIs (f : Option Int) (w : Int) (o : Nat) (c : Int) : Prop := (o = 0 ∨ f ≠ none) ∧ c = w + (o : Int) * f.getD 0
theorem co_add {f : Option Int} {w1 w2 : Int} {o1 o2 : Nat} {c1 c2 : Int} (h1 : CoIs f w1 o1 c1) (h2 : CoIs f w2 o2 c2) : CoIs f (w1 + w2) (o1 + o2) (c1 + c2) := by
  obtain ⟨a1, b1⟩ := h1
  obtain ⟨a2, b2⟩ := h2
  refine ⟨?_, ?_⟩
  · rcases a1 with a1 | a1
    · rcases a2 with a2 | a2
      · exact .inl (by omega)
      · exact .inr a2
    · exact .inr a1
  · rw [b1, b2, Int.natCast_add, Int.add_mul]
    omega
theorem co_split {f : Option Int} {w1 w2 : Int} {o1 o2 : Nat} {c : Int} (h : CoIs f (w1 + w2) (o1 + o2) c) : ∃ c1 c2, CoIs f w1 o1 c1 ∧ CoIs f w2 o2 c2 ∧ c = c1 + c2 := by
  obtain ⟨a, b⟩ := h
  refine ⟨w1 + (o1 : Int) * f.getD 0, w2 + (o2 : Int) * f.getD 0, ⟨?_, rfl⟩, ⟨?_, rfl⟩, ?_⟩
  · rcases a with a | a
    · exact .inl (by omega)
    · exact .inr a
  · rcases a with a | a
    · exact .inl (by omega)
    · exact .inr a
  · rw [b, Int.natCast_add, Int.add_mul]
    omega
theorem co_charged (f : Option Int) (w : Int) (o : Bool) (c : Int) : charged w o f = some c ↔ CoIs f w (oneN o) c := by
  unfold charged CoIs oneN
  cases o with
  | false =>
    simp
    exact ⟨fun h => h.symm, fun h => h.symm⟩
  | true =>
    cases f with
    | none => simp
    | some f =>
      simp
      exact ⟨fun h => h.symm, fun h => h.symm⟩
theorem co_shift {f : Option Int} {w k : Int} {o : Nat} {c : Int} : CoIs f w o c ↔ CoIs f (w + k) o (c + k) := by
  unfold CoIs
  constructor
  · rintro ⟨a, b⟩
    exact ⟨a, by omega⟩
  · rintro ⟨a, b⟩
    exact ⟨a, by omega⟩
/-- labels of a kind, k of them -/
def Val (n k : Nat) (ls : List Int) : Prop := ls.length = k ∧ ∀ y ∈ ls, 0 ≤ y ∧ y < (n : Int)
abbrev fn (ls : List Int) : Nat → Int := fun i => ls.getD i 0
theorem fn_l {xs ys : List Int} {i : Nat} (h : i < xs.length) : fn (xs ++ ys) i = fn xs i := getD_app_l h
theorem fn_r {xs ys : List Int} {i : Nat} : fn (xs ++ ys) (xs.length + i) = fn ys i := by
  show (xs ++ ys).getD (xs.length + i) 0 = ys.getD i 0
  rw [List.getD_eq_getElem?_getD, List.getElem?_append_right (by omega), Nat.add_sub_cancel_left, ← List.getD_eq_getElem?_getD]
theorem fn_mem {xs : List Int} {i : Nat} (h : i < xs.length) : fn xs i ∈ xs := by
  show xs.getD i 0 ∈ xs
  rw [List.getD_eq_getElem?_getD, List.getElem?_eq_getElem h]
  exact List.getElem_mem h
theorem val_split {n a b : Nat} {ls : List Int} (h : Val n (a + b) ls) : ∃ xs ys, ls = xs ++ ys ∧ Val n a xs ∧ Val n b ys := by
  refine ⟨ls.take a, ls.drop a, (List.take_append_drop a ls).symm, ⟨by rw [List.length_take, h.1]; omega, fun y hy => h.2 y (List.mem_of_mem_take hy)⟩, ⟨by rw [List.length_drop, h.1]; omega, fun y hy => h.2 y (List.mem_of_mem_drop hy)⟩⟩
theorem val_app {n a b : Nat} {xs ys : List Int} (h1 : Val n a xs) (h2 : Val n b ys) : Val n (a + b) (xs ++ ys) :=
  ⟨by rw [List.length_append, h1.1, h2.1], fun y hy => (List.mem_append.mp hy).elim (h1.2 y) (h2.2 y)⟩
theorem val_one {n : Nat} {ls : List Int} (h : Val n 1 ls) : ∃ lab : Nat, ls = [(lab : Int)] ∧ lab < n := by
  obtain ⟨y, rfl⟩ : ∃ y, ls = [y] := List.length_eq_one_iff.mp h.1
  have := h.2 y (by simp)
  exact ⟨y.toNat, by rw [show ((y.toNat : Nat) : Int) = y by omega], by omega⟩
theorem one_val {n lab : Nat} (h : lab < n) : Val n 1 [(lab : Int)] := ⟨rfl, fun y hy => by
  rw [List.mem_singleton] at hy
  subst hy
  omega⟩
def CsV (m : Mac) (f : Option Int) (root : Bool) (t : Tr) (p : Nat → List Int) (lab : Nat) (r : Pr) : Prop := Val m.n t.size r.2 ∧ fn r.2 (t.size - 1) = (lab : Int) ∧ CoIs f (Wt t p (fn r.2)) (Ob_ m root t (fn r.2)) r.1
theorem fn_last {xs : List Int} {y : Int} {k : Nat} (h : xs.length = k) : fn (xs ++ [y]) k = y := by
  have := fn_r (xs := xs) (ys := [y]) (i := 0)
  rw [Nat.add_zero, h] at this
  exact this
theorem co_sub {f : Option Int} {k w : Int} {o : Nat} {c : Int} (h : CoIs f (0 + k + w) o c) : CoIs f w o (c - k) := by
  rw [co_shift (k := k)]
  rw [show w + k = 0 + k + w by omega, show c - k + k = c by omega]
  exact h
theorem co_sup {f : Option Int} {k w : Int} {o : Nat} {c : Int} (h : CoIs f w o c) : CoIs f (0 + k + w) o (k + c) := by
  rw [co_shift (k := k)] at h
  rw [show 0 + k + w = w + k by omega, show k + c = c + k by omega]
  exact h
theorem cs_iff (m : Mac) (f : Option Int) : ∀ (t : Tr) (root : Bool) (p : Nat → List Int) (lab : Nat) (r : Pr), lab < m.n → (CsT m f root t p lab r ↔ CsV m f root t p lab r)
  | .n0 l, root, p, lab, r, h => by
    unfold CsT CsV
    constructor
    · rintro ⟨h1, h2⟩
      rw [h2]
      refine ⟨one_val h, rfl, ?_⟩
      rw [co_charged, Int.zero_add] at h1
      exact h1
    · rintro ⟨h1, h2, h3⟩
      obtain ⟨lab', h4, h5⟩ := val_one h1
      rw [h4] at h2 h3
      have h6 : (lab' : Int) = lab := h2
      have h7 : lab' = lab := by omega
      subst h7
      refine ⟨?_, h4⟩
      rw [co_charged, Int.zero_add]
      exact h3
  | .n1 l a, root, p, lab, r, h => by
    have pa := size_pos a
    unfold CsT CsV
    constructor
    · rintro ⟨x, r1, hx, h1, h2, h3⟩
      obtain ⟨v1, v2, v3⟩ := (cs_iff m f a false p x r1 hx).mp h1
      rw [h3]
      have hl := fn_last (xs := r1.2) (y := (lab : Int)) v1.1
      have hc : ∀ i, i < a.size → fn (r1.2 ++ [(lab : Int)]) i = fn r1.2 i := fun i hi => fn_l (by rw [v1.1]; exact hi)
      refine ⟨val_app v1 (one_val h), hl, ?_⟩
      rw [co_charged] at h2
      have h4 := co_add v3 (co_sub h2)
      rw [show r1.1 + (r.1 - r1.1) = r.1 by omega] at h4
      unfold Wt Ob_
      rw [Wt_congr hc, Ob_congr hc, hl, hc _ (by omega), v2]
      exact h4
    · rintro ⟨h1, h2, h3⟩
      obtain ⟨xs, ys, e, vx, vy⟩ := val_split h1
      obtain ⟨lab', rfl, hlab'⟩ := val_one vy
      rw [e] at h2 h3
      have hl := fn_last (xs := xs) (y := (lab' : Int)) vx.1
      have hc : ∀ i, i < a.size → fn (xs ++ [(lab' : Int)]) i = fn xs i := fun i hi => fn_l (by rw [vx.1]; exact hi)
      have h7 : lab' = lab := by
        have : (lab' : Int) = lab := hl.symm.trans h2
        omega
      subst h7
      unfold Wt Ob_ at h3
      rw [Wt_congr hc, Ob_congr hc, hl, hc _ (by omega)] at h3
      obtain ⟨c1, c2, g1, g2, g3⟩ := co_split h3
      have hm := vx.2 _ (fn_mem (xs := xs) (i := a.size - 1) (by rw [vx.1]; omega))
      have ex : fn xs (a.size - 1) = ((fn xs (a.size - 1)).toNat : Int) := by omega
      refine ⟨(fn xs (a.size - 1)).toNat, (c1, xs), by omega, (cs_iff m f a false p _ _ (by omega)).mpr ⟨vx, ex, g1⟩, ?_, e⟩
      rw [co_charged, ← ex, g3]
      exact co_sup g2
  | .n2 l a b, root, p, lab, r, h => by
    have pa := size_pos a
    have pb := size_pos b
    unfold CsT CsV
    constructor
    · rintro ⟨x, y, r1, r2, hx, hy, h1, h2, h3, h4⟩
      obtain ⟨v1, v2, v3⟩ := (cs_iff m f a false p x r1 hx).mp h1
      obtain ⟨w1, w2, w3⟩ := (cs_iff m f b false _ y r2 hy).mp h2
      rw [h4]
      have hv := val_app v1 w1
      have hl := fn_last (xs := r1.2 ++ r2.2) (y := (lab : Int)) hv.1
      have hc : ∀ i, i < a.size → fn (r1.2 ++ r2.2 ++ [(lab : Int)]) i = fn r1.2 i := fun i hi => by
        rw [List.append_assoc]
        exact fn_l (by rw [v1.1]; exact hi)
      have hd : ∀ i, i < b.size → fn (r1.2 ++ r2.2 ++ [(lab : Int)]) (a.size + i) = fn r2.2 i := fun i hi => by
        rw [List.append_assoc, ← v1.1, fn_r]
        exact fn_l (by rw [w1.1]; exact hi)
      refine ⟨val_app hv (one_val h), hl, ?_⟩
      rw [co_charged, show 0 + r1.1 + r2.1 + (p (a.size + b.size)).getD lab 0 = 0 + (r1.1 + r2.1) + (p (a.size + b.size)).getD lab 0 by omega] at h3
      have h5 := co_add (co_add v3 w3) (co_sub h3)
      rw [show r1.1 + r2.1 + (r.1 - (r1.1 + r2.1)) = r.1 by omega] at h5
      unfold Wt Ob_
      rw [Wt_congr hc, Ob_congr hc, hl, hc _ (by omega), v2, Wt_congr hd, Ob_congr hd, hd _ (by omega), w2]
      exact h5
    · rintro ⟨h1, h2, h3⟩
      obtain ⟨zs, ys, e, vz, vy⟩ := val_split h1
      obtain ⟨xs, us, e2, vx, vu⟩ := val_split vz
      subst e2
      obtain ⟨lab', rfl, hlab'⟩ := val_one vy
      rw [e] at h2 h3
      have hl := fn_last (xs := xs ++ us) (y := (lab' : Int)) vz.1
      have hc : ∀ i, i < a.size → fn (xs ++ us ++ [(lab' : Int)]) i = fn xs i := fun i hi => by
        rw [List.append_assoc]
        exact fn_l (by rw [vx.1]; exact hi)
      have hd : ∀ i, i < b.size → fn (xs ++ us ++ [(lab' : Int)]) (a.size + i) = fn us i := fun i hi => by
        rw [List.append_assoc, ← vx.1, fn_r]
        exact fn_l (by rw [vu.1]; exact hi)
      have h7 : lab' = lab := by
        have : (lab' : Int) = lab := hl.symm.trans h2
        omega
      subst h7
      unfold Wt Ob_ at h3
      rw [Wt_congr hc, Ob_congr hc, hl, hc _ (by omega), Wt_congr hd, Ob_congr hd, hd _ (by omega)] at h3
      obtain ⟨c1, c2, g1, g2, g3⟩ := co_split h3
      obtain ⟨c3, c4, g4, g5, g6⟩ := co_split g1
      have hm := vx.2 _ (fn_mem (xs := xs) (i := a.size - 1) (by rw [vx.1]; omega))
      have hm2 := vu.2 _ (fn_mem (xs := us) (i := b.size - 1) (by rw [vu.1]; omega))
      have ex : fn xs (a.size - 1) = ((fn xs (a.size - 1)).toNat : Int) := by omega
      have ey : fn us (b.size - 1) = ((fn us (b.size - 1)).toNat : Int) := by omega
      refine ⟨(fn xs (a.size - 1)).toNat, (fn us (b.size - 1)).toNat, (c3, xs), (c4, us), by omega, by omega, (cs_iff m f a false p _ _ (by omega)).mpr ⟨vx, ex, g4⟩, (cs_iff m f b false _ _ _ (by omega)).mpr ⟨vu, ey, g5⟩, ?_, e⟩
      rw [co_charged, ← ex, ← ey, g3, g6, show 0 + c3 + c4 + (p (a.size + b.size)).getD lab' 0 = 0 + (c3 + c4) + (p (a.size + b.size)).getD lab' 0 by omega]
      exact co_sup g2
end Ob
/-! part Xe -/
namespace Ob
open PySem L2
local macro_rules | `(tactic| walk_at "wp") => `(tactic| simp only [q_wpE_c, q_wpE_slot, q_wpE_bin, q_wpE_neg, q_wpE_not, q_wpE_or, q_wpE_and, q_wpE_cmp, q_wpE_chain, q_wpE_ife, q_wpE_tup, q_wpE_lst, q_wpE_ix, q_wpE_cut, q_att, blD_eq, mvD_eq, ndD_eq, sq_pD, sq_lm, is_non, is_bl, is_int, is_lst, eq_nn, in_bl, in_lst, decide_true, am_1, am_2, am_3, ar_7, ar_2, ar_8, ar_9, ag_7, ag_2, ag_10, ag_8, ag_9, ck_n, ck_n1, cl_i, cl_i1, cl_n1, ci_t, ci_l, cn_t, cn_l, q_wpE_len, q_wpE_list, q_wpE_tuple, q_wpE_sum, q_wpE_min1, q_wpE_min2, q_wpE_int, q_wpE_all, q_wpE_sset, q_wpE_mdict, q_wpE_isi, q_wpE_pop, q_wpE_app, q_wpE_exd, q_wpE_call, q_wpE_meth, q_wpE_new, q_wpE_fz, q_wpE_bor, q_wpA_nil, q_wpA_cons, q_wpA_star, q_wpT_tv, q_wpT_tnot, q_wpT_tand, q_wpT_tor, q_wpT_noE, q_wpO_noE, q_wpO_tv, q_wpI_iSeq, q_wpI_iRan, q_wpI_iRan2, q_wpI_iEnum, q_wpI_iZip, q_wpI_iRev, e_lc, wpG, wpG.wpGs, wipeD, List.map_cons, List.map_nil, List.append_nil, List.cons_append, List.nil_append, List.replicate, List.length_cons, List.length_nil, List.length_map, Nat.reduceSub, Nat.reduceAdd, tN, enum_map,
  List.set_cons_zero, List.set_cons_succ, List.getElem?_cons_zero, List.getElem?_cons_succ, Option.some.injEq, Dt.int.injEq, Dt.bl.injEq, Dt.lst.injEq, Dt.tup.injEq, Dt.ins.injEq, Dt.adr.injEq, Cell.lst.injEq, Cell.ins.injEq, exists_eq_right, exists_eq_right', Prod.mk.injEq, exists_eq_left', exists_eq_left, exists_and_left, exists_eq', exists_eq, true_and, and_true, List.cons.injEq, and_self, and_assoc,
  bk_addi, bk_sub, bk_mul, bk_mod, bk_div, bk_pow, bk_cat, bk_rep, nk_f, nk_t, sq_lst, sq_tup, sq_pr, ls_lst, fz_lst, fz_tup, ts_non, ts_bl, ts_pr, cm_lt, cm_le, cm_gt, cm_ge, cm_eq, cm_ne, cm_eqb, cm_neb, cm_is, cm_isn, in_non, in_int, in_pr, in_o, in_oi, gt_hd, pt_hd, dl_hd,
  at_0, at_1, at_2, at_3, at_4, oD_n, oD_s, oi_n, oi_s, Option.isNone_none, Option.isNone_some, lim_0, lim_1, lim_2, lim_3, lim_4, lim_5, lim_6, lim_7, Int.natCast_nonneg, Int.ofNat_le, Bool.not_true, Bool.true_or, Bool.false_or, Bool.or_true, Bool.or_false, Bool.true_and, Bool.false_and, Bool.and_true, Bool.and_false, List.contains_cons, List.contains_nil, Nat.reduceBEq, Bool.not_false, Bool.true_eq_false, Bool.false_eq_true, false_imp_iff, true_imp_iff, reduceCtorEq, forall_const, Nat.reduceLT, Nat.reduceLeDiff, eq_self, forall_eq', forall_eq])
local macro_rules | `(tactic| walk_at "go") => `(tactic| (try dsimp only); (try walk_at "wp"); repeat (first | refine seq_i ?_ | (refine asg_i ?_; try walk_at "wp") | (refine drop_i ?_; try walk_at "wp") | (refine ret_i ?_; try walk_at "wp") | (refine forr_i ?_; try walk_at "wp") | (refine iff_i ?_; try walk_at "wp") | (refine seti_i ?_; try walk_at "wp") | (refine augi_i ?_; try walk_at "wp") | (refine seta_i ?_; try walk_at "wp") | (refine skip_i ?_; try walk_at "wp")))
/-! Plain mathematics: the law's best of lists. -/
theorem lex_app_lt : ∀ {a b c d : List Int}, a.length = b.length → lexL a b = true → lexL (a ++ c) (b ++ d) = true
  | [], [], _, _, _, h => by cases h
  | x :: a, y :: b, c, d, hl, h => by
    have h : (if x = y then lexL a b else decide (x < y)) = true := h
    show (if x = y then lexL (a ++ c) (b ++ d) else decide (x < y)) = true
    by_cases e : x = y
    · rw [if_pos e] at h ⊢
      exact lex_app_lt (Nat.succ.inj hl) h
    · rw [if_neg e] at h ⊢
      exact h
theorem lex_app_eq : ∀ (a : List Int) {c d : List Int}, lexL c d = true → lexL (a ++ c) (a ++ d) = true
  | [], _, _, h => h
  | x :: a, c, d, h => by
    show (if x = x then lexL (a ++ c) (a ++ d) else decide (x < x)) = true
    rw [if_pos rfl]
    exact lex_app_eq a h
theorem lex_asymm {a b : List Int} (h : lexL a b = true) : lexL b a = false := by
  cases e : lexL b a with
  | false => rfl
  | true =>
    have := lex_trans h e
    rw [lex_irrefl] at this
    cases this
theorem longer_sorted {n : Nat} {k : Nat} {f : List (List Int)} (hl : ∀ r ∈ f, r.length = k) (h : f.Pairwise fun a b => lexL a b = true) : (longer n f).Pairwise fun a b => lexL a b = true := by
  unfold longer
  rw [List.pairwise_flatMap]
  refine ⟨fun r hr => ?_, ?_⟩
  · rw [List.pairwise_map]
    refine List.Pairwise.imp ?_ List.pairwise_lt_range
    intro x y hxy
    refine lex_app_eq r ?_
    show (if (x : Int) = (y : Int) then lexL [] [] else decide ((x : Int) < (y : Int))) = true
    rw [if_neg (by omega)]
    exact decide_eq_true (by omega)
  · refine List.Pairwise.imp_of_mem ?_ h
    intro a b ha hb hab x hx y hy
    obtain ⟨i, _, rfl⟩ := List.mem_map.mp hx
    obtain ⟨j, _, rfl⟩ := List.mem_map.mp hy
    exact lex_app_lt (by rw [hl a ha, hl b hb]) hab
theorem lists_succ (k n : Nat) : listsF (k + 1) n = longer n (listsF k n) := by
  unfold listsF
  rw [List.range_succ, List.foldl_append]
  rfl
theorem lists_val : ∀ (k n : Nat) (ls : List Int), ls ∈ listsF k n ↔ Val n k ls
  | 0, n, ls => by
    show ls ∈ [[]] ↔ _
    rw [List.mem_singleton]
    constructor
    · rintro rfl
      exact ⟨rfl, by simp⟩
    · intro h
      exact List.eq_nil_of_length_eq_zero h.1
  | k + 1, n, ls => by
    rw [lists_succ]
    unfold longer
    rw [List.mem_flatMap]
    constructor
    · rintro ⟨r, hr, h⟩
      obtain ⟨l, hl, rfl⟩ := List.mem_map.mp h
      exact val_app ((lists_val k n r).mp hr) (one_val (List.mem_range.mp hl))
    · intro h
      obtain ⟨xs, ys, rfl, h1, h2⟩ := val_split h
      obtain ⟨l, rfl, hl⟩ := val_one h2
      exact ⟨xs, (lists_val k n xs).mpr h1, List.mem_map.mpr ⟨l, List.mem_range.mpr hl, rfl⟩⟩
theorem lists_sorted : ∀ k n : Nat, (listsF k n).Pairwise fun a b => lexL a b = true
  | 0, n => List.pairwise_singleton _ _
  | k + 1, n => by
    rw [lists_succ]
    exact longer_sorted (k := k) (fun r hr => ((lists_val k n r).mp hr).1) (lists_sorted k n)
def bestG (C : List Int → Option Int) (b : Option Pr) (ls : List Int) : Option Pr := match C ls with
  | none => b
  | some c => match b with
    | none => some (c, ls)
    | some x => if c < x.1 then some (c, ls) else some x
theorem foldl_mem {α β : Type} {f g : β → α → β} : ∀ (xs : List α) (b : β), (∀ x ∈ xs, ∀ b, f b x = g b x) → xs.foldl f b = xs.foldl g b
  | [], _, _ => rfl
  | x :: xs, b, h => by
    rw [List.foldl_cons, List.foldl_cons, h x List.mem_cons_self]
    exact foldl_mem xs _ fun y hy => h y (List.mem_cons_of_mem _ hy)
theorem range_getD {α : Type} (xs : List α) (d : α) : (List.range xs.length).map (fun k => xs.getD k d) = xs := by
  apply List.ext_getElem?
  intro i
  rw [List.getElem?_map]
  by_cases h : i < xs.length
  · rw [List.getElem?_range h, List.getElem?_eq_getElem h]
    simp [List.getD_eq_getElem?_getD, h]
  · rw [List.getElem?_eq_none (by rw [List.length_range]; omega), List.getElem?_eq_none (by omega)]
    rfl
theorem bestL_eq (lists : List (List Int)) (C : List Int → Option Int) : bestL lists (lists.map C) = lists.foldl (bestG C) none := by
  unfold bestL
  have h : (List.range lists.length).foldl (bestStep lists (lists.map C)) none = (List.range lists.length).foldl (fun b k => bestG C b (lists.getD k [])) none := by
    refine foldl_mem _ _ fun k hk b => ?_
    rw [List.mem_range] at hk
    unfold bestStep bestG
    have e : (lists.map C).getD k none = C (lists.getD k []) := by
      rw [List.getD_eq_getElem?_getD, List.getElem?_map, List.getD_eq_getElem?_getD, List.getElem?_eq_getElem hk]
      try rfl
    rw [e]
    all_goals (cases C (lists.getD k []) <;> cases b <;> rfl)
  rw [h, ← List.foldl_map (f := fun k => lists.getD k []) (g := bestG C), range_getD]
theorem bestG_min (C : List Int → Option Int) : ∀ (post pre : List (List Int)) (b : Option Pr), IsMin (fun p => p.2 ∈ pre ∧ C p.2 = some p.1) b → (∀ y ∈ pre, ∀ z ∈ post, lexL y z = true) → post.Pairwise (fun a b => lexL a b = true) →
    IsMin (fun p => p.2 ∈ pre ++ post ∧ C p.2 = some p.1) (post.foldl (bestG C) b)
  | [], pre, b, hb, _, _ => by
    rw [List.append_nil]
    exact hb
  | x :: post, pre, b, hb, h1, h2 => by
    rw [List.foldl_cons]
    obtain ⟨h3, h4⟩ := List.pairwise_cons.mp h2
    have key : IsMin (fun p => p.2 ∈ pre ++ [x] ∧ C p.2 = some p.1) (bestG C b x) := by
      unfold bestG
      cases e : C x with
      | none =>
        refine hb.congr fun p => ?_
        constructor
        · rintro ⟨a, c⟩
          exact ⟨List.mem_append_left _ a, c⟩
        · rintro ⟨a, c⟩
          rcases List.mem_append.mp a with a | a
          · exact ⟨a, c⟩
          · rw [List.mem_singleton.mp a, e] at c
            cases c
      | some c =>
        cases b with
        | none =>
          refine ⟨⟨by simp, e⟩, ?_⟩
          rintro p ⟨a, g⟩
          rcases List.mem_append.mp a with a | a
          · exact absurd ⟨a, g⟩ (hb p)
          · have a := List.mem_singleton.mp a
            rw [a, e] at g
            have : p = (c, x) := Prod.ext (Option.some.inj g).symm a
            rw [this]
            exact pr_irrefl _
        | some y =>
          simp only
          by_cases hc : c < y.1
          · rw [if_pos hc]
            refine ⟨⟨by simp, e⟩, ?_⟩
            rintro p ⟨a, g⟩
            rcases List.mem_append.mp a with a | a
            · have h5 := hb.2 p ⟨a, g⟩
              have h6 : prLt y (c, x) = false := by
                unfold prLt
                simp only
                rw [if_neg (by omega)]
                exact decide_eq_false (by omega)
              exact pr_le_trans h6 h5
            · have a := List.mem_singleton.mp a
              rw [a, e] at g
              have : p = (c, x) := Prod.ext (Option.some.inj g).symm a
              rw [this]
              exact pr_irrefl _
          · rw [if_neg hc]
            refine ⟨⟨List.mem_append_left _ hb.1.1, hb.1.2⟩, ?_⟩
            rintro p ⟨a, g⟩
            rcases List.mem_append.mp a with a | a
            · exact hb.2 p ⟨a, g⟩
            · have a := List.mem_singleton.mp a
              rw [a, e] at g
              have : p = (c, x) := Prod.ext (Option.some.inj g).symm a
              rw [this]
              unfold prLt
              simp only
              by_cases e2 : c = y.1
              · rw [if_pos e2]
                exact lex_asymm (h1 _ hb.1.1 x List.mem_cons_self)
              · rw [if_neg e2]
                exact decide_eq_false (by omega)
    have := bestG_min C post (pre ++ [x]) _ key (by
      intro y hy z hz
      rcases List.mem_append.mp hy with hy | hy
      · exact h1 y hy z (List.mem_cons_of_mem _ hz)
      · rw [List.mem_singleton.mp hy]
        exact h3 z hz) h4
    rw [List.append_assoc] at this
    exact this
theorem bestL_min {lists : List (List Int)} (C : List Int → Option Int) (h : lists.Pairwise fun a b => lexL a b = true) : IsMin (fun p => p.2 ∈ lists ∧ C p.2 = some p.1) (bestL lists (lists.map C)) := by
  rw [bestL_eq]
  exact bestG_min C lists [] none (fun p hp => by simp at hp) (by simp) h
theorem costF_iff (P : List (List Int)) (f : Option Int) (ls : List Int) (c : Nat) (v : Int) : costF P f ls c = some v ↔ CoIs f (wholeF P ls) c v := by
  unfold costF CoIs
  by_cases h : 0 < c
  · rw [if_pos h]
    cases f with
    | none =>
      simp
      omega
    | some f =>
      simp
      exact ⟨fun h => h.symm, fun h => h.symm⟩
  · have : c = 0 := by omega
    subst this
    simp
    exact ⟨fun h => h.symm, fun h => h.symm⟩
theorem range_add (a b : Nat) : List.range (a + b) = List.range a ++ (List.range b).map (a + ·) := List.range_add ..
theorem Wt_sum : ∀ (t : Tr) (p : Nat → List Int) (lb : Nat → Int), Wt t p lb = ((List.range t.size).map fun i => (p i).getD (lb i).toNat 0).sum
  | .n0 l, p, lb => by
    show (p 0).getD (lb 0).toNat 0 = ((List.range 1).map _).sum
    simp [List.range_succ]
  | .n1 l a, p, lb => by
    unfold Wt
    simp only [Tr.size]
    rw [Wt_sum a, List.range_succ, List.map_append, List.sum_append]
    simp
  | .n2 l a b, p, lb => by
    unfold Wt
    simp only [Tr.size]
    rw [Wt_sum a, Wt_sum b, List.range_succ, range_add, List.map_append, List.map_append, List.sum_append, List.sum_append, List.map_map]
    simp [Function.comp_def]
theorem whole_eq {P : List (List Int)} {t : Tr} {ls : List Int} (h : ls.length = t.size) : wholeF P ls = Wt t (fun i => P.getD i []) (fn ls) := by
  rw [Wt_sum]
  unfold wholeF
  rw [h]
end Ob
/-! part Xf -/
namespace Ob
open PySem L2
local macro_rules | `(tactic| walk_at "wp") => `(tactic| simp only [q_wpE_c, q_wpE_slot, q_wpE_bin, q_wpE_neg, q_wpE_not, q_wpE_or, q_wpE_and, q_wpE_cmp, q_wpE_chain, q_wpE_ife, q_wpE_tup, q_wpE_lst, q_wpE_ix, q_wpE_cut, q_att, blD_eq, mvD_eq, ndD_eq, sq_pD, sq_lm, is_non, is_bl, is_int, is_lst, eq_nn, in_bl, in_lst, decide_true, am_1, am_2, am_3, ar_7, ar_2, ar_8, ar_9, ag_7, ag_2, ag_10, ag_8, ag_9, ck_n, ck_n1, cl_i, cl_i1, cl_n1, ci_t, ci_l, cn_t, cn_l, q_wpE_len, q_wpE_list, q_wpE_tuple, q_wpE_sum, q_wpE_min1, q_wpE_min2, q_wpE_int, q_wpE_all, q_wpE_sset, q_wpE_mdict, q_wpE_isi, q_wpE_pop, q_wpE_app, q_wpE_exd, q_wpE_call, q_wpE_meth, q_wpE_new, q_wpE_fz, q_wpE_bor, q_wpA_nil, q_wpA_cons, q_wpA_star, q_wpT_tv, q_wpT_tnot, q_wpT_tand, q_wpT_tor, q_wpT_noE, q_wpO_noE, q_wpO_tv, q_wpI_iSeq, q_wpI_iRan, q_wpI_iRan2, q_wpI_iEnum, q_wpI_iZip, q_wpI_iRev, e_lc, wpG, wpG.wpGs, wipeD, List.map_cons, List.map_nil, List.append_nil, List.cons_append, List.nil_append, List.replicate, List.length_cons, List.length_nil, List.length_map, Nat.reduceSub, Nat.reduceAdd, tN, enum_map,
  List.set_cons_zero, List.set_cons_succ, List.getElem?_cons_zero, List.getElem?_cons_succ, Option.some.injEq, Dt.int.injEq, Dt.bl.injEq, Dt.lst.injEq, Dt.tup.injEq, Dt.ins.injEq, Dt.adr.injEq, Cell.lst.injEq, Cell.ins.injEq, exists_eq_right, exists_eq_right', Prod.mk.injEq, exists_eq_left', exists_eq_left, exists_and_left, exists_eq', exists_eq, true_and, and_true, List.cons.injEq, and_self, and_assoc,
  bk_addi, bk_sub, bk_mul, bk_mod, bk_div, bk_pow, bk_cat, bk_rep, nk_f, nk_t, sq_lst, sq_tup, sq_pr, ls_lst, fz_lst, fz_tup, ts_non, ts_bl, ts_pr, cm_lt, cm_le, cm_gt, cm_ge, cm_eq, cm_ne, cm_eqb, cm_neb, cm_is, cm_isn, in_non, in_int, in_pr, in_o, in_oi, gt_hd, pt_hd, dl_hd,
  at_0, at_1, at_2, at_3, at_4, oD_n, oD_s, oi_n, oi_s, Option.isNone_none, Option.isNone_some, lim_0, lim_1, lim_2, lim_3, lim_4, lim_5, lim_6, lim_7, Int.natCast_nonneg, Int.ofNat_le, Bool.not_true, Bool.true_or, Bool.false_or, Bool.or_true, Bool.or_false, Bool.true_and, Bool.false_and, Bool.and_true, Bool.and_false, List.contains_cons, List.contains_nil, Nat.reduceBEq, Bool.not_false, Bool.true_eq_false, Bool.false_eq_true, false_imp_iff, true_imp_iff, reduceCtorEq, forall_const, Nat.reduceLT, Nat.reduceLeDiff, eq_self, forall_eq', forall_eq])
local macro_rules | `(tactic| walk_at "go") => `(tactic| (try dsimp only); (try walk_at "wp"); repeat (first | refine seq_i ?_ | (refine asg_i ?_; try walk_at "wp") | (refine drop_i ?_; try walk_at "wp") | (refine ret_i ?_; try walk_at "wp") | (refine forr_i ?_; try walk_at "wp") | (refine iff_i ?_; try walk_at "wp") | (refine seti_i ?_; try walk_at "wp") | (refine augi_i ?_; try walk_at "wp") | (refine seta_i ?_; try walk_at "wp") | (refine skip_i ?_; try walk_at "wp")))
/-! Plain mathematics: objections counted, the tree's answer. -/
theorem filter_sum {α : Type} (p : α → Bool) : ∀ xs : List α, (xs.filter p).length = (xs.map fun x => oneN (p x)).sum
  | [] => rfl
  | x :: xs => by
    rw [List.filter_cons, List.map_cons, List.sum_cons, ← filter_sum p xs]
    cases p x
    · simp [oneN]
    · simp [oneN]
      omega
/-- a person's objection, the root's own rule aside -/
def badN (m : Mac) (lb : Nat → Int) (x : Nd) (at_ : Nat) (root : Bool) : Nat := oneN (objI m x.1 (x.2.map lb) (lb at_) root)
theorem sum_congr {α : Type} {f g : α → Nat} : ∀ (xs : List α), (∀ x ∈ xs, f x = g x) → (xs.map f).sum = (xs.map g).sum
  | [], _ => rfl
  | x :: xs, h => by
    rw [List.map_cons, List.map_cons, List.sum_cons, List.sum_cons, h x List.mem_cons_self, sum_congr xs fun y hy => h y (List.mem_cons_of_mem _ hy)]
theorem getD_l {xs ys : List Nd} {i : Nat} {d : Nd} (h : i < xs.length) : (xs ++ ys).getD i d = xs.getD i d := getD_app_l h
theorem getD_r {xs ys : List Nd} {i : Nat} {d : Nd} : (xs ++ ys).getD (xs.length + i) d = ys.getD i d := by
  rw [List.getD_eq_getElem?_getD, List.getElem?_append_right (by omega), Nat.add_sub_cancel_left, ← List.getD_eq_getElem?_getD]
theorem cnt_eq (m : Mac) (lb : Nat → Int) : ∀ (t : Tr) (k : Nat), ((List.range t.size).map fun i => badN m lb (((nodes t).map (shiftN k)).getD i (0, [])) (k + i) false).sum = Ob_ m false t fun i => lb (k + i)
  | .n0 l, k => by
    simp [nodes, Tr.size, List.range_succ, badN, shiftN, Ob_]
  | .n1 l a, k => by
    have ih := cnt_eq m lb a k
    have pa := size_pos a
    have ln : ((nodes a).map (shiftN k)).length = a.size := by rw [List.length_map, nodes_len]
    simp only [nodes, Tr.size, List.map_append, List.map_cons, List.map_nil, Ob_]
    rw [List.range_succ, List.map_append, List.sum_append, List.map_cons, List.map_nil]
    have e1 := sum_congr (f := fun i => badN m lb (((nodes a).map (shiftN k) ++ [shiftN k (l, [a.size - 1])]).getD i (0, [])) (k + i) false) (g := fun i => badN m lb (((nodes a).map (shiftN k)).getD i (0, [])) (k + i) false) (List.range a.size) (fun i hi => by
      rw [List.mem_range] at hi
      rw [getD_l (by rw [ln]; exact hi)])
    rw [e1, ih]
    have e2 : ((nodes a).map (shiftN k) ++ [shiftN k (l, [a.size - 1])]).getD a.size (0, []) = shiftN k (l, [a.size - 1]) := by
      have := getD_r (xs := (nodes a).map (shiftN k)) (ys := [shiftN k (l, [a.size - 1])]) (i := 0) (d := (0, []))
      rw [Nat.add_zero, ln] at this
      exact this
    rw [e2]
    simp only [badN, shiftN, List.map_cons, List.map_nil, List.sum_cons, List.sum_nil, Nat.add_zero]
    rw [show a.size - 1 + k = k + (a.size - 1) by omega]
  | .n2 l a b, k => by
    have ih1 := cnt_eq m lb a k
    have ih2 := cnt_eq m lb b (k + a.size)
    have pa := size_pos a
    have pb := size_pos b
    have la : ((nodes a).map (shiftN k)).length = a.size := by rw [List.length_map, nodes_len]
    have lb2 : ((nodes b).map (shiftN (k + a.size))).length = b.size := by rw [List.length_map, nodes_len]
    simp only [nodes, Tr.size, List.map_append, List.map_cons, List.map_nil, Ob_, map_shift]
    generalize hA : (nodes a).map (shiftN k) = A at la ih1 ⊢
    generalize hB : (nodes b).map (shiftN (k + a.size)) = B at lb2 ih2 ⊢
    rw [List.range_succ, range_add, List.map_append, List.map_append, List.sum_append, List.sum_append, List.map_cons, List.map_nil, List.map_map]
    have e1 := sum_congr (f := fun i => badN m lb ((A ++ B ++ [shiftN k (l, [a.size - 1, a.size + b.size - 1])]).getD i (0, [])) (k + i) false) (g := fun i => badN m lb (A.getD i (0, [])) (k + i) false) (List.range a.size) (fun i hi => by
      rw [List.mem_range] at hi
      rw [List.append_assoc, getD_l (by rw [la]; exact hi)])
    have e3 := sum_congr (f := (fun i => badN m lb ((A ++ B ++ [shiftN k (l, [a.size - 1, a.size + b.size - 1])]).getD i (0, [])) (k + i) false) ∘ fun x => a.size + x) (g := fun i => badN m lb (B.getD i (0, [])) (k + a.size + i) false) (List.range b.size) (fun i hi => by
      rw [List.mem_range] at hi
      simp only [Function.comp]
      rw [List.append_assoc, ← la, getD_r, getD_l (by rw [lb2]; exact hi), Nat.add_assoc])
    rw [e1, e3, ih1, ih2]
    have e2 : (A ++ B ++ [shiftN k (l, [a.size - 1, a.size + b.size - 1])]).getD (a.size + b.size) (0, []) = shiftN k (l, [a.size - 1, a.size + b.size - 1]) := by
      have := getD_r (xs := A ++ B) (ys := [shiftN k (l, [a.size - 1, a.size + b.size - 1])]) (i := 0) (d := (0, []))
      rw [Nat.add_zero, List.length_append, la, lb2] at this
      exact this
    rw [e2]
    simp only [badN, shiftN, List.map_cons, List.map_nil, List.sum_cons, List.sum_nil, Nat.add_zero]
    rw [show a.size - 1 + k = k + (a.size - 1) by omega, show a.size + b.size - 1 + k = k + (a.size + (b.size - 1)) by omega]
    simp only [Nat.add_assoc]
theorem Ob_root (m : Mac) (t : Tr) (lb : Nat → Int) : ∃ x k, Ob_ m true t lb = k + oneN (objI m (letOf t) x (lb (t.size - 1)) true) ∧ Ob_ m false t lb = k + oneN (objI m (letOf t) x (lb (t.size - 1)) false) ∧ ((nodes t).getD (t.size - 1) (0, [])).1 = letOf t ∧ ((nodes t).getD (t.size - 1) (0, [])).2.map lb = x := by
  have hl : (nodes t).getD (t.size - 1) (0, []) = (nodes t).getLastD (0, []) := by
    rw [← nodes_len, getD_last]
  rw [hl]
  cases t with
  | n0 l => exact ⟨[], 0, by simp [Ob_, Tr.size, letOf], by simp [Ob_, Tr.size, letOf], rfl, rfl⟩
  | n1 l a => exact ⟨[lb (a.size - 1)], Ob_ m false a lb, rfl, rfl, by simp only [nodes, getLastD_app, letOf], by simp only [nodes, getLastD_app, List.map_cons, List.map_nil]⟩
  | n2 l a b =>
    have pb := size_pos b
    refine ⟨[lb (a.size - 1), lb (a.size + (b.size - 1))], Ob_ m false a lb + Ob_ m false b (fun i => lb (a.size + i)), rfl, rfl, by simp only [nodes, getLastD_app, letOf], ?_⟩
    simp only [nodes, getLastD_app, List.map_cons, List.map_nil]
    rw [show a.size + b.size - 1 = a.size + (b.size - 1) by omega]
theorem obj_len {m : Mac} {q : Lm} (h : Same2 m q) (t : Tr) (ls : List Int) : (objF q (nodes t) ls).length = Ob_ m true t (fn ls) := by
  have hpos := size_pos t
  have hg : ∀ at_, at_ < t.size → oneN (!goodF q (nodes t) ls at_) = badN m (fn ls) ((nodes t).getD at_ (0, [])) at_ (decide (at_ = t.size - 1)) := by
    intro at_ hat
    unfold goodF badN objI
    simp only
    rw [nodes_len]
    have e1 : decide ((((nodes t).getD at_ (0, [])).1, ((nodes t).getD at_ (0, [])).2.map (fun c => ls.getD c 0), ls.getD at_ 0) ∈ q.mv) = decide ((((nodes t).getD at_ (0, [])).1, ((nodes t).getD at_ (0, [])).2.map (fn ls), fn ls at_) ∈ m.mv) := by
      rw [decide_eq_decide]
      exact (h.mv _).symm
    have e2 : decide (ls.getD at_ 0 ∈ q.en) = decide (fn ls at_ ∈ m.en) := by
      rw [decide_eq_decide]
      exact (h.en _).symm
    rw [e1, e2]
    generalize decide ((((nodes t).getD at_ (0, [])).1, ((nodes t).getD at_ (0, [])).2.map (fn ls), fn ls at_) ∈ m.mv) = b1
    generalize decide (at_ = t.size - 1) = b2
    generalize decide (fn ls at_ ∈ m.en) = b3
    cases b1 <;> cases b2 <;> cases b3 <;> rfl
  unfold objF
  rw [nodes_len, filter_sum, sum_congr (g := fun at_ => badN m (fn ls) ((nodes t).getD at_ (0, [])) at_ (decide (at_ = t.size - 1))) _ (fun x hx => hg x (List.mem_range.mp hx))]
  obtain ⟨x, k, h1, h2, h3, h4⟩ := Ob_root m t (fn ls)
  have hc := cnt_eq m (fn ls) t 0
  rw [nodes_shift0] at hc
  simp only [Nat.zero_add] at hc
  change _ = Ob_ m false t (fn ls) at hc
  have hs : t.size = (t.size - 1) + 1 := by omega
  rw [hs, List.range_succ, List.map_append, List.sum_append] at hc
  conv => lhs; rw [hs, List.range_succ, List.map_append, List.sum_append]
  simp only [List.map_cons, List.map_nil, List.sum_cons, List.sum_nil, Nat.add_zero] at hc ⊢
  rw [sum_congr (g := fun i => badN m (fn ls) ((nodes t).getD i (0, [])) i false) _ (fun i hi => by
    rw [List.mem_range] at hi
    have e : decide (i = t.size - 1 + 1 - 1) = false := decide_eq_false (by omega)
    rw [e])]
  have e9 : decide (t.size - 1 = t.size - 1 + 1 - 1) = true := decide_eq_true (by omega)
  rw [e9]
  have eb : ∀ r, badN m (fn ls) ((nodes t).getD (t.size - 1) (0, [])) (t.size - 1) r = oneN (objI m (letOf t) x (fn ls (t.size - 1)) r) := by
    intro r
    unfold badN
    rw [h3, h4]
  rw [eb] at hc ⊢
  omega
/-- the program's best is the law's -/
theorem tree_best {m : Mac} {q : Lm} (h : Same2 m q) (t : Tr) (P : List (List Int)) (f : Option Int) : (endsF m P f (nodes t)).foldl better none = bestL (listsF t.size q.n) ((listsF t.size q.n).map fun ls => costF P f ls (objF q (nodes t) ls).length) := by
  rw [endsF_eq]
  refine (ends_min m f t _).uniq ((bestL_min (fun ls => costF P f ls (objF q (nodes t) ls).length) (lists_sorted t.size q.n)).congr fun p => ?_)
  rw [lists_val, costF_iff, obj_len h, ← h.n]
  have hpos := size_pos t
  constructor
  · rintro ⟨v, c⟩
    rw [whole_eq v.1] at c
    have hm := v.2 _ (fn_mem (xs := p.2) (i := t.size - 1) (by rw [v.1]; omega))
    exact ⟨(fn p.2 (t.size - 1)).toNat, by omega, (cs_iff m f t true _ _ p (by omega)).mpr ⟨v, by omega, c⟩⟩
  · rintro ⟨lab, hl, hc⟩
    obtain ⟨v, _, c⟩ := (cs_iff m f t true _ lab p hl).mp hc
    rw [whole_eq v.1]
    exact ⟨v, c⟩
end Ob
/-! part W2 -/
namespace Ob
open PySem L2
local macro_rules | `(tactic| walk_at "wp") => `(tactic| simp only [q_wpE_c, q_wpE_slot, q_wpE_bin, q_wpE_neg, q_wpE_not, q_wpE_or, q_wpE_and, q_wpE_cmp, q_wpE_chain, q_wpE_ife, q_wpE_tup, q_wpE_lst, q_wpE_ix, q_wpE_cut, q_att, blD_eq, mvD_eq, ndD_eq, sq_pD, sq_lm, is_non, is_bl, is_int, is_lst, eq_nn, in_bl, in_lst, decide_true, am_1, am_2, am_3, ar_7, ar_2, ar_8, ar_9, ag_7, ag_2, ag_10, ag_8, ag_9, ck_n, ck_n1, cl_i, cl_i1, cl_n1, ci_t, ci_l, cn_t, cn_l, q_wpE_len, q_wpE_list, q_wpE_tuple, q_wpE_sum, q_wpE_min1, q_wpE_min2, q_wpE_int, q_wpE_all, q_wpE_sset, q_wpE_mdict, q_wpE_isi, q_wpE_pop, q_wpE_app, q_wpE_exd, q_wpE_call, q_wpE_meth, q_wpE_new, q_wpE_fz, q_wpE_bor, q_wpA_nil, q_wpA_cons, q_wpA_star, q_wpT_tv, q_wpT_tnot, q_wpT_tand, q_wpT_tor, q_wpT_noE, q_wpO_noE, q_wpO_tv, q_wpI_iSeq, q_wpI_iRan, q_wpI_iRan2, q_wpI_iEnum, q_wpI_iZip, q_wpI_iRev, e_lc, wpG, wpG.wpGs, wipeD, List.map_cons, List.map_nil, List.append_nil, List.cons_append, List.nil_append, List.replicate, List.length_cons, List.length_nil, List.length_map, Nat.reduceSub, Nat.reduceAdd, tN, enum_map,
  List.set_cons_zero, List.set_cons_succ, List.getElem?_cons_zero, List.getElem?_cons_succ, Option.some.injEq, Dt.int.injEq, Dt.bl.injEq, Dt.lst.injEq, Dt.tup.injEq, Dt.ins.injEq, Dt.adr.injEq, Cell.lst.injEq, Cell.ins.injEq, exists_eq_right, exists_eq_right', Prod.mk.injEq, exists_eq_left', exists_eq_left, exists_and_left, exists_eq', exists_eq, true_and, and_true, List.cons.injEq, and_self, and_assoc,
  bk_addi, bk_sub, bk_mul, bk_mod, bk_div, bk_pow, bk_cat, bk_rep, nk_f, nk_t, sq_lst, sq_tup, sq_pr, ls_lst, fz_lst, fz_tup, ts_non, ts_bl, ts_pr, cm_lt, cm_le, cm_gt, cm_ge, cm_eq, cm_ne, cm_eqb, cm_neb, cm_is, cm_isn, in_non, in_int, in_pr, in_o, in_oi, gt_hd, pt_hd, dl_hd,
  at_0, at_1, at_2, at_3, at_4, oD_n, oD_s, oi_n, oi_s, Option.isNone_none, Option.isNone_some, lim_0, lim_1, lim_2, lim_3, lim_4, lim_5, lim_6, lim_7, Int.natCast_nonneg, Int.ofNat_le, Bool.not_true, Bool.true_or, Bool.false_or, Bool.or_true, Bool.or_false, Bool.true_and, Bool.false_and, Bool.and_true, Bool.and_false, List.contains_cons, List.contains_nil, Nat.reduceBEq, Bool.not_false, Bool.true_eq_false, Bool.false_eq_true, false_imp_iff, true_imp_iff, reduceCtorEq, forall_const, Nat.reduceLT, Nat.reduceLeDiff, eq_self, forall_eq', forall_eq])
local macro_rules | `(tactic| walk_at "go") => `(tactic| (try dsimp only); (try walk_at "wp"); repeat (first | refine seq_i ?_ | (refine asg_i ?_; try walk_at "wp") | (refine drop_i ?_; try walk_at "wp") | (refine ret_i ?_; try walk_at "wp") | (refine forr_i ?_; try walk_at "wp") | (refine iff_i ?_; try walk_at "wp") | (refine seti_i ?_; try walk_at "wp") | (refine augi_i ?_; try walk_at "wp") | (refine seta_i ?_; try walk_at "wp") | (refine skip_i ?_; try walk_at "wp")))
/-! Walks: Found, best. -/
theorem sq_tl {u : Mu} {p : Addr} {c : Cell} {d : Dt} (h : ∀ q, d = .adr q → q ≠ p) : seqOf ((p, c) :: u) d = seqOf u d := by
  cases d with
  | adr q =>
    show (match get ((p, c) :: u) q with
      | some (.lst ds) => some ds
      | _ => none) = (match get u q with
      | some (.lst ds) => some ds
      | _ => none)
    rw [gt_tl _ (Ne.symm (h q rfl))]
  | _ => rfl
theorem d_Found_init (F : Nat → FS) : Does F 6 6 b_Found_init S_Found_init := by
  rintro ds u K ⟨p, kind, cost, nums, xs, ns, es, u0, rfl, rfl, hn, hnp, k⟩
  refine ⟨rfl, ?_⟩
  simp only [st0]
  unfold b_Found_init
  walk_at "go"
  intro pl hpl
  have n1 : pl ≠ p := fun e => hpl (by rw [e]; exact List.mem_cons_self)
  have hpl2 : pl ∉ adrs u0 := fun h => hpl (List.mem_cons_of_mem _ h)
  walk_at "go"
  refine ⟨_, _, gt_tl _ n1 |>.trans (gt_hd _ _), ?_⟩
  rw [pt_tl _ _ n1, pt_hd]
  walk_at "go"
  have hnl : ∀ q, nums = .adr q → q ≠ pl := by
    rintro q rfl e
    have h1 : (match get u0 q with
      | some (.lst ds) => some ds
      | _ => none) = some ns := hn
    cases h2 : get u0 q with
    | none =>
      rw [h2] at h1
      cases h1
    | some c =>
      apply hpl2
      rw [← e]
      exact get_adr h2
  refine ⟨ns, by rw [sq_tl hnl, sq_tl hnp]; exact hn, _, _, gt_tl _ n1 |>.trans (gt_hd _ _), by simp, by simp, ?_⟩
  rw [pt_tl _ _ n1, pt_hd]
  walk_at "go"
  intro pe hpe
  have n2 : pe ≠ pl := fun e => hpe (by rw [e]; exact List.mem_cons_self)
  have n3 : pe ≠ p := fun e => hpe (by rw [e]; exact List.mem_cons_of_mem _ List.mem_cons_self)
  have hpe2 : pe ∉ adrs u0 := fun h => hpe (List.mem_cons_of_mem _ (List.mem_cons_of_mem _ h))
  refine ⟨_, _, gt_tl _ n3 |>.trans (gt_tl _ n1 |>.trans (gt_hd _ _)), by simp, by simp, ?_⟩
  rw [pt_tl _ _ n3, pt_tl _ _ n1, pt_hd]
  exact keepK (k pl pe n1 hpl2 n3 n2 hpe2)
theorem fold_mem {α β : Type} {f : β → α → β} {P : β → Prop} : ∀ (xs : List α) (b : β), P b → (∀ b a, a ∈ xs → P b → P (f b a)) → P (xs.foldl f b)
  | [], _, h0, _ => h0
  | x :: xs, b, h0, h => fold_mem xs _ (h b x List.mem_cons_self h0) fun b a ha hb => h b a (List.mem_cons_of_mem _ ha) hb
theorem better_le {n : Nat} {a b : Option Pr} (ha : ∀ q, a = some q → q.2.length ≤ n) (hb : ∀ q, b = some q → q.2.length ≤ n) : ∀ q, better a b = some q → q.2.length ≤ n := by
  intro q hq
  cases a with
  | none => exact hb q hq
  | some x =>
    cases b with
    | none => exact ha q hq
    | some y =>
      have e : q = prMin x y := (Option.some.inj hq).symm
      rw [e]
      unfold prMin
      split
      · exact hb y rfl
      · exact ha x rfl
theorem rowF_le {m : Mac} {pr : List Int} {f : Option Int} {letter : Int} {bl : List Bl} {root : Bool} {n : Nat} (h : ∀ x ∈ bl, x.2.2.length ≤ n) : ∀ q, some q ∈ rowF m pr f letter bl root → q.2.length ≤ n + 1 := by
  intro q hq
  unfold rowF at hq
  rw [List.mem_map] at hq
  obtain ⟨lab, _, hq⟩ := hq
  refine fold_mem (P := fun b : Option Pr => ∀ q, b = some q → q.2.length ≤ n + 1) bl none (by simp) (fun b x hx hb => ?_) q hq
  unfold rowStep
  cases charged _ _ f with
  | none => exact hb
  | some c => exact better_le hb (by
      intro q hq
      cases hq
      have := h x hx
      simp
      omega)
theorem below_small2 {done : List Row} {B : Nat} (hq : ∀ r ∈ done, ∀ q, some q ∈ r → q.2.length ≤ B) : ∀ (cs : List Nat) (f0 : List Bl) (b : Nat), (∀ x ∈ f0, x.2.2.length ≤ b) → ∀ x ∈ cs.foldl (belowStep done) f0, x.2.2.length ≤ b + cs.length * B
  | [], f0, b, h, x, hx => by
    have := h x hx
    simp
    omega
  | c :: cs, f0, b, h, x, hx => by
    have h1 := below_small2 hq cs (belowStep done f0 c) (b + B) (fun y hy => by
      unfold belowStep at hy
      rw [List.mem_flatMap] at hy
      obtain ⟨z, hz, hy⟩ := hy
      rw [List.mem_filterMap] at hy
      obtain ⟨w, hw, hy⟩ := hy
      have hz2 := h z hz
      obtain ⟨w1, w2⟩ := w
      have hm := List.fst_mem_of_mem_zipIdx hw
      cases w1 with
      | none => cases hy
      | some q =>
        have e : y = (z.1 ++ [(w2 : Int)], (z.2.1 + q.1, z.2.2 ++ q.2)) := (Option.some.inj hy).symm
        have hd : done.getD c [] ∈ done := by
          rw [List.getD_eq_getElem?_getD] at hm ⊢
          cases e2 : done[c]? with
          | none =>
            rw [e2] at hm
            cases hm
          | some r => exact List.mem_of_getElem? e2
        have h3 := hq _ hd q hm
        rw [e]
        simp
        omega) x hx
    rw [List.length_cons, Nat.add_mul]
    omega
theorem rowF_len (m : Mac) (pr : List Int) (f : Option Int) (letter : Int) (bl : List Bl) (root : Bool) : (rowF m pr f letter bl root).length = m.n := by
  unfold rowF
  rw [List.length_map, List.length_range]
structure BestI (m : Mac) (i : Nat) (done : List Row) : Prop where
  len : done.length = i
  row : ∀ r ∈ done, r.length = m.n
  lab : ∀ r ∈ done, ∀ q, some q ∈ r → q.2.length ≤ 2 ^ i - 1
theorem best_below {m : Mac} {i : Nat} {done : List Row} {cs : List Nat} (h : BestI m i done) (hc : cs.length ≤ 2) : ∀ x ∈ belowOf cs done, x.2.2.length ≤ 2 * (2 ^ i - 1) := by
  intro x hx
  have h1 := below_small2 h.lab cs [([], (0, []))] 0 (by simp) x hx
  have h2 : cs.length * (2 ^ i - 1) ≤ 2 * (2 ^ i - 1) := Nat.mul_le_mul_right _ hc
  omega
theorem best_step {m : Mac} {P : List (List Int)} {f : Option Int} {i : Nat} {done : List Row} {x : Nd × Nat} (h : BestI m i done) (hc : x.1.2.length ≤ 2) : BestI m (i + 1) (doneStep m P f done x) := by
  unfold doneStep
  have hp : 2 ^ (i + 1) = 2 * 2 ^ i := by rw [Nat.pow_succ, Nat.mul_comm]
  have h0 : 1 ≤ 2 ^ i := Nat.pow_pos (by decide)
  refine ⟨by rw [List.length_append, h.len]; rfl, ?_, ?_⟩
  · intro r hr
    rw [List.mem_append, List.mem_singleton] at hr
    rcases hr with hr | hr
    · exact h.row r hr
    · rw [hr, rowF_len]
  · intro r hr q hq
    rw [List.mem_append, List.mem_singleton] at hr
    rcases hr with hr | hr
    · have := h.lab r hr q hq
      omega
    · rw [hr] at hq
      have := rowF_le (best_below h hc) q hq
      omega
end Ob
/-! part W2b -/
namespace Ob
open PySem L2
local macro_rules | `(tactic| walk_at "wp") => `(tactic| simp only [q_wpE_c, q_wpE_slot, q_wpE_bin, q_wpE_neg, q_wpE_not, q_wpE_or, q_wpE_and, q_wpE_cmp, q_wpE_chain, q_wpE_ife, q_wpE_tup, q_wpE_lst, q_wpE_ix, q_wpE_cut, q_att, blD_eq, mvD_eq, ndD_eq, sq_pD, sq_lm, is_non, is_bl, is_int, is_lst, eq_nn, in_bl, in_lst, decide_true, am_1, am_2, am_3, ar_7, ar_2, ar_8, ar_9, ag_7, ag_2, ag_10, ag_8, ag_9, ck_n, ck_n1, cl_i, cl_i1, cl_n1, ci_t, ci_l, cn_t, cn_l, q_wpE_len, q_wpE_list, q_wpE_tuple, q_wpE_sum, q_wpE_min1, q_wpE_min2, q_wpE_int, q_wpE_all, q_wpE_sset, q_wpE_mdict, q_wpE_isi, q_wpE_pop, q_wpE_app, q_wpE_exd, q_wpE_call, q_wpE_meth, q_wpE_new, q_wpE_fz, q_wpE_bor, q_wpA_nil, q_wpA_cons, q_wpA_star, q_wpT_tv, q_wpT_tnot, q_wpT_tand, q_wpT_tor, q_wpT_noE, q_wpO_noE, q_wpO_tv, q_wpI_iSeq, q_wpI_iRan, q_wpI_iRan2, q_wpI_iEnum, q_wpI_iZip, q_wpI_iRev, e_lc, wpG, wpG.wpGs, wipeD, List.map_cons, List.map_nil, List.append_nil, List.cons_append, List.nil_append, List.replicate, List.length_cons, List.length_nil, List.length_map, Nat.reduceSub, Nat.reduceAdd, tN, enum_map,
  List.set_cons_zero, List.set_cons_succ, List.getElem?_cons_zero, List.getElem?_cons_succ, Option.some.injEq, Dt.int.injEq, Dt.bl.injEq, Dt.lst.injEq, Dt.tup.injEq, Dt.ins.injEq, Dt.adr.injEq, Cell.lst.injEq, Cell.ins.injEq, exists_eq_right, exists_eq_right', Prod.mk.injEq, exists_eq_left', exists_eq_left, exists_and_left, exists_eq', exists_eq, true_and, and_true, List.cons.injEq, and_self, and_assoc,
  bk_addi, bk_sub, bk_mul, bk_mod, bk_div, bk_pow, bk_cat, bk_rep, nk_f, nk_t, sq_lst, sq_tup, sq_pr, ls_lst, fz_lst, fz_tup, ts_non, ts_bl, ts_pr, cm_lt, cm_le, cm_gt, cm_ge, cm_eq, cm_ne, cm_eqb, cm_neb, cm_is, cm_isn, in_non, in_int, in_pr, in_o, in_oi, gt_hd, pt_hd, dl_hd,
  at_0, at_1, at_2, at_3, at_4, oD_n, oD_s, oi_n, oi_s, Option.isNone_none, Option.isNone_some, lim_0, lim_1, lim_2, lim_3, lim_4, lim_5, lim_6, lim_7, Int.natCast_nonneg, Int.ofNat_le, Bool.not_true, Bool.true_or, Bool.false_or, Bool.or_true, Bool.or_false, Bool.true_and, Bool.false_and, Bool.and_true, Bool.and_false, List.contains_cons, List.contains_nil, Nat.reduceBEq, Bool.not_false, Bool.true_eq_false, Bool.false_eq_true, false_imp_iff, true_imp_iff, reduceCtorEq, forall_const, Nat.reduceLT, Nat.reduceLeDiff, eq_self, forall_eq', forall_eq])
local macro_rules | `(tactic| walk_at "go") => `(tactic| (try dsimp only); (try walk_at "wp"); repeat (first | refine seq_i ?_ | (refine asg_i ?_; try walk_at "wp") | (refine drop_i ?_; try walk_at "wp") | (refine ret_i ?_; try walk_at "wp") | (refine forr_i ?_; try walk_at "wp") | (refine iff_i ?_; try walk_at "wp") | (refine seti_i ?_; try walk_at "wp") | (refine augi_i ?_; try walk_at "wp") | (refine seta_i ?_; try walk_at "wp") | (refine skip_i ?_; try walk_at "wp")))
/-! Walks: best. -/
theorem d_best (F : Nat → FS) (h0 : F 0 = S_nodes_of) (h5 : F 5 = S_Found_init) (h6 : F 6 = S_better) (h7 : F 7 = S_below_of) (h9 : F 9 = S_Reckoner_init) (h10 : F 10 = S_Reckoner_row) (h11 : F 11 = S_cost_of) : Does F 17 4 b_best S_best := by
  rintro ds u K ⟨m, t, P, f, rfl, mo, ht, hP, hPr, k⟩
  refine ⟨rfl, ?_⟩
  have hpos := size_pos t
  have hn8 := mo.n
  have hnl := nodes_len t
  have hok := fun i x => @nodes_ch t i x
  unfold FndP bestF at k
  simp only [st0]
  unfold b_best
  walk_at "go"
  intro pk hpk
  rw [h9]
  refine ⟨pk, m, pD P, oiD f, u, rfl, rfl, mo, ?_⟩
  have erk : Dt.ins 2 [(7, macD m), (2, .keys m.mv), (8, pD P), (9, oiD f)] = rkD m (pD P) (oiD f) := rfl
  walk_at "go"
  rw [erk]
  walk_at "go"
  intro p hp
  walk_at "go"
  rw [h0]
  refine ⟨t, rfl, by omega, ?_⟩
  generalize nodes t = ns at k hnl hok ⊢
  walk_at "go"
  refine for_I (fun i l2 u2 => ∃ done, done = (ns.zipIdx.take i).foldl (doneStep m P f) [] ∧ BestI m i done ∧ u2 = (p, .lst (done.map rowD)) :: u ∧ ∃ a b c d e f' g h j k', l2 = [some (macD m), some (treeD t), some (pD P), some (oiD f), some (rkD m (pD P) (oiD f)), some (.adr p), some (.lst (ns.map ndD)), a, b, c, d, e, f', g, h, j, k'])
    ⟨[], rfl, ⟨rfl, by simp, by simp⟩, rfl, _, _, _, _, _, _, _, _, _, _, rfl⟩ ?_ ?_
  · rintro i ⟨⟨letter, ch⟩, i'⟩ l2 u2 hx ⟨done, hdone, hI, rfl, a, b, c, d, e, f', g, h, j, k', rfl⟩
    obtain ⟨hi1, hx2⟩ := zip_get hx
    simp only at hi1 hx2
    subst hi1
    have hch := hok _ _ hx2
    simp only at hch
    have hilt : i' < ns.length := (List.getElem?_eq_some_iff.mp hx2).1
    have e0 : (ns.zipIdx.take (i' + 1)).foldl (doneStep m P f) [] = doneStep m P f done ((letter, ch), i') := by
      rw [List.take_add_one, hx, List.foldl_append, ← hdone]
      rfl
    have hp1 : P[i']? = some (P.getD i' []) := by
      rw [List.getD_eq_getElem?_getD, List.getElem?_eq_getElem (by omega)]
      rfl
    have hb15 : 2 ^ i' ≤ 2 ^ 4 := Nat.pow_le_pow_right (by decide) (by omega)
    rw [e0]
    walk_at "go"
    refine ⟨_, rfl, ?_⟩
    rw [h7]
    refine ⟨ch, .adr p, done, rfl, sq_adr (gt_hd _ _), ?_, fun c hc => by rw [hI.len]; exact hch.2 c hc, hch.1, fun r hr => by rw [hI.row r hr]; exact hn8, fun r hr q hq => by have := hI.lab r hr q hq; omega, ?_⟩
    · intro q hq
      cases hq
      exact List.mem_cons_self
    rw [h10]
    refine ⟨m, P, f, i', P.getD i' [], letter, belowOf ch done, false, rfl, mo, hp1, hPr _ (List.mem_of_getElem? hp1), fun x hx => by have := best_below hI hch.1 x hx; omega, ?_⟩
    walk_at "go"
    refine ⟨by rw [hI.len]; simp only [LIM]; omega, best_step hI hch.1, ?_⟩
    simp [doneStep]
  · rintro l4 u4 ⟨done, hdone, hI, rfl, a, b, c, d, e, f', g, h, j, k', rfl⟩
    rw [List.take_length] at hdone
    have hdf : doneF m P f ns = done := hdone.symm
    rw [List.length_zipIdx] at hI
    rw [hdf] at k
    unfold endsF at k
    rw [hdf] at k
    have hi : ns.length - 1 < ns.length := by omega
    obtain ⟨⟨letter, ch⟩, hnd⟩ : ∃ y, ns[ns.length - 1]? = some y := ⟨ns[ns.length - 1], List.getElem?_eq_getElem hi⟩
    have hch := hok _ _ hnd
    simp only at hch
    have hlastD : ns.getLastD (0, []) = (letter, ch) := by
      rw [List.getLastD_eq_getLast?, List.getLast?_eq_getElem?, hnd]
      rfl
    rw [hlastD] at k
    have hp1 : P[ns.length - 1]? = some (P.getD (ns.length - 1) []) := by
      rw [List.getD_eq_getElem?_getD, List.getElem?_eq_getElem (by omega)]
      rfl
    have hb15 : 2 ^ ns.length ≤ 2 ^ 4 := Nat.pow_le_pow_right (by decide) (by omega)
    have elast : (ns.length : Int) - 1 = ((ns.length - 1 : Nat) : Int) := by omega
    walk_at "go"
    rw [elast]
    refine ⟨_, rfl, _, at_map ndD hnd, ?_⟩
    walk_at "go"
    refine ⟨_, at_map ndD hnd, ?_⟩
    walk_at "go"
    rw [h7]
    refine ⟨ch, .adr p, done, rfl, sq_adr (gt_hd _ _), ?_, fun c hc => by have := hch.2 c hc; rw [hI.len]; omega, hch.1, fun r hr => by rw [hI.row r hr]; exact hn8, fun r hr q hq => by have := hI.lab r hr q hq; omega, ?_⟩
    · intro q hq
      cases hq
      exact List.mem_cons_self
    rw [h10]
    refine ⟨m, P, f, ns.length - 1, P.getD (ns.length - 1) [], letter, belowOf ch done, true, rfl, mo, hp1, hPr _ (List.mem_of_getElem? hp1), fun x hx => by have := best_below hI hch.1 x hx; omega, ?_⟩
    have hel := rowF_len m (P.getD (ns.length - 1) []) f letter (belowOf ch done) true
    simp only at k
    generalize rowF m (P.getD (ns.length - 1) []) f letter (belowOf ch done) true = ends at k hel ⊢
    walk_at "go"
    rw [fz2_hd (no_map _ (fun _ => rfl) _)]
    walk_at "go"
    refine lc_I (fun i acc u2 => ∃ rs : List Addr, acc = rs.map .adr ∧ rs.length = i ∧ (∀ (j : Nat) (p : Addr) (r : Row), rs[j]? = some p → done[j]? = some r → get u2 p = some (.lst ((r.map costOf).map oiD))) ∧ ∀ p c, get u p = some c → get u2 p = some c) ⟨[], rfl, rfl, by simp, fun _ _ h => h⟩ (by rw [hI.len]; simp only [LIM]; omega) ?_ ?_
    · rintro i r acc u2 hr ⟨rs, rfl, hrl, hrs, hold⟩
      have hr8 := hI.row r (List.mem_of_getElem? hr)
      walk_at "go"
      refine lc_m (fun o => oiD (costOf o)) (by simp only [LIM]; omega) (fun o ho J hj => ?_) ?_
      · walk_at "go"
        rw [h11]
        exact ⟨o, rfl, rfl, hj⟩
      walk_at "go"
      intro q hq
      refine ⟨rs ++ [q], by simp, by simp [hrl], ?_, ?_⟩
      · intro j p' r' hj hr'
        by_cases hjl : j < rs.length
        · rw [List.getElem?_append_left hjl] at hj
          have h1 := hrs j p' r' hj hr'
          rw [gt_tl _ (ne_fresh h1 hq)]
          exact h1
        · rw [List.getElem?_append_right (by omega)] at hj
          have hj0 : j - rs.length = 0 := by
            cases h3 : j - rs.length with
            | zero => rfl
            | succ n => rw [h3] at hj; cases hj
          rw [hj0] at hj
          cases hj
          have hji : j = i := by omega
          subst hji
          rw [hr] at hr'
          cases hr'
          rw [gt_hd, List.map_map]
          rfl
      · intro p' c' h'
        have h1 := hold p' c' h'
        rw [gt_tl _ (ne_fresh h1 hq)]
        exact h1
    · rintro acc u2 ⟨rs, rfl, hrl, hrs, hold⟩
      walk_at "go"
      refine for_f (xs := ends) (enc := oD) (step := better) (b0 := none) (fun b l2 u3 => u3 = u2 ∧ ∃ a7 a8 a9 x14 x15 x16, l2 = [some (macD m), some (treeD t), some (pD P), some (oiD f), some (rkD m (pD P) (oiD f)), some (.adr p), some (.lst (ns.map ndD)), a7, a8, a9, some (.int ((ns.length - 1 : Nat) : Int)), some (rowD ends), some (.lst (rs.map .adr)), some (oD b), x14, x15, x16]) ⟨rfl, _, _, _, _, _, _, rfl⟩ ?_ ?_
      · rintro i x l3 u3 hx ⟨rfl, a7, a8, a9, x14, x15, x16, rfl⟩
        generalize (ends.take i).foldl better none = b
        walk_at "go"
        rw [h6]
        refine ⟨b, x, rfl, ?_⟩
        walk_at "go"
      · rintro l5 u5 ⟨rfl, a7, a8, a9, x14, x15, x16, rfl⟩
        generalize ends.foldl better none = found at k ⊢
        walk_at "go"
        refine lc_m (fun o => oiD (costOf o)) (by simp only [LIM]; omega) (fun o ho J hj => ?_) ?_
        · walk_at "go"
          rw [h11]
          exact ⟨o, rfl, rfl, hj⟩
        walk_at "go"
        have fin : ∀ (kind : Dt) (pl pe : Addr) (v : Addr), v ∉ adrs u5 → pl ≠ v → pl ∉ adrs u5 → pe ≠ v → pe ≠ pl → pe ∉ adrs u5 →
            ∃ u2 : Mu, u2.Sublist (del ((pe, .lst (ends.map fun o => oiD (costOf o))) :: (pl, .lst ((labOf found).map .int)) :: (v, .ins 1 [(4, kind), (5, oiD (costOf found)), (1, .adr pl), (6, .lst (rs.map .adr)), (3, .adr pe)]) :: u5) v) ∧ K (.ins 1 [(4, kind), (5, oiD (costOf found)), (1, .adr pl), (6, .lst (rs.map .adr)), (3, .adr pe)]) u2 := by
          intro kind pl pe v hv n1 hpl n2 n3 hpe
          rw [dl_tl _ n2, dl_tl _ n1, dl_hd]
          refine keepK (k kind rs pl pe _ ?_ ?_ ?_ ?_ ?_)
          · show rs.length = (done.map fun r => r.map costOf).length
            rw [List.length_map]
            exact hrl
          · intro j p' r' hj hr'
            have hr2 : (done.map fun r => r.map costOf)[j]? = some r' := hr'
            rw [List.getElem?_map] at hr2
            cases h3 : done[j]? with
            | none =>
              rw [h3] at hr2
              cases hr2
            | some r0 =>
              rw [h3] at hr2
              cases hr2
              have h1 := hrs j p' r0 hj h3
              rw [gt_tl _ (ne_fresh h1 hpe), gt_tl _ (ne_fresh h1 hpl)]
              exact h1
          · rw [gt_tl _ n3, gt_hd]
            cases found <;> rfl
          · rw [gt_hd]
            show _ = some (Cell.lst ((ends.map costOf).map oiD))
            rw [List.map_map]
            rfl
          · intro p' c' h'
            have h1 := hold p' c' h'
            rw [gt_tl _ (ne_fresh h1 hpe), gt_tl _ (ne_fresh h1 hpl)]
            exact h1
        cases found with
        | none =>
          walk_at "go"
          intro v hv
          rw [h5]
          refine ⟨v, .str "none", .non, .lst (rs.map .adr), [], rs.map .adr, ends.map fun o => oiD (costOf o), u5, rfl, rfl, rfl, by simp, fun pl pe n1 hpl n2 n3 hpe => ?_⟩
          refine ⟨rfl, _, gt_tl _ n2 |>.trans (gt_tl _ n1 |>.trans (gt_hd _ _)), ?_⟩
          exact fin (.str "none") pl pe v hv n1 hpl n2 n3 hpe
        | some b =>
          walk_at "go"
          intro v hv
          rw [h5]
          refine ⟨v, .str "best", .int b.1, .lst (rs.map .adr), b.2.map .int, rs.map .adr, ends.map fun o => oiD (costOf o), u5, rfl, rfl, rfl, by simp, fun pl pe n1 hpl n2 n3 hpe => ?_⟩
          refine ⟨rfl, _, gt_tl _ n2 |>.trans (gt_tl _ n1 |>.trans (gt_hd _ _)), ?_⟩
          exact fin (.str "best") pl pe v hv n1 hpl n2 n3 hpe
theorem d_fewest (F : Nat → FS) (h0 : F 0 = S_nodes_of) (h12 : F 12 = S_best) : Does F 3 2 b_fewest_objections S_fewest := by
  rintro ds u K ⟨m, t, rfl, mo, ht, k⟩
  refine ⟨rfl, ?_⟩
  have hpos := size_pos t
  have hn8 := mo.n
  have hnl := nodes_len t
  simp only [st0]
  unfold b_fewest_objections
  walk_at "go"
  rw [h0]
  refine ⟨t, rfl, by omega, ?_⟩
  unfold fewestF at k
  generalize nodes t = ns at k hnl ⊢
  walk_at "go"
  refine lc_m (fun _ => .lst ((List.replicate m.n (0 : Int)).map .int)) (by simp only [LIM]; omega) (fun o ho J hj => ?_) ?_
  · walk_at "go"
    refine ⟨by omega, ?_⟩
    have er : (List.replicate m.n [Dt.int 0]).flatten = (List.replicate m.n (0 : Int)).map .int := by
      rw [List.map_replicate]
      generalize m.n = n
      induction n with
      | zero => rfl
      | succ n ih => rw [List.replicate_succ, List.flatten_cons, ih, List.replicate_succ]; rfl
    rw [er]
    exact hj
  walk_at "go"
  rw [h12]
  refine ⟨m, t, ns.map fun _ => List.replicate m.n 0, some 1, ?_, mo, ht, by rw [List.length_map]; exact hnl, ?_, ?_⟩
  · unfold pD
    rw [List.map_map]
    rfl
  · intro r hr
    rw [List.mem_map] at hr
    obtain ⟨_, _, rfl⟩ := hr
    simp
  · unfold FndP at k ⊢
    intro kind rs pl pe u' h1 h2 h3 h4 h5
    exact keepK (k kind rs pl pe u' h1 h2 h3 h4 h5)
theorem d_after (F : Nat → FS) (h12 : F 12 = S_best) : Does F 6 3 b_after_change S_after := by
  rintro ds u K ⟨m, t, old, rfl, mo, ht, ho, k⟩
  refine ⟨rfl, ?_⟩
  have hn8 := mo.n
  simp only [st0]
  unfold b_after_change
  walk_at "go"
  refine lc_m (fun o => .lst (((List.range m.n).map fun (lab : Nat) => if (lab : Int) = o then (0 : Int) else 1).map .int)) (by simp only [LIM]; omega) (fun o ho J hj => ?_) ?_
  · walk_at "go"
    refine ⟨by omega, ?_⟩
    refine lc_m (fun (lab : Nat) => .int (if (lab : Int) = o then (0 : Int) else 1)) (by rw [List.length_range]; simp only [LIM]; omega) (fun lab hl J hj => ?_) ?_
    · walk_at "go"
      simp only [Dt.bl.injEq, exists_eq_left', reduceCtorEq, false_and, exists_false, false_or]
      by_cases h : (lab : Int) = o
      · simp only [h, if_true] at hj
        simp [h]
        simpa using hj
      · simp only [h, if_false] at hj
        simp [h]
        simpa using hj
    walk_at "go"
    rw [List.map_map] at hj
    exact hj
  walk_at "go"
  rw [h12]
  refine ⟨m, t, changeP m.n old, none, ?_, mo, ht, ?_, ?_, ?_⟩
  · unfold pD changeP
    rw [List.map_map]
    rfl
  · unfold changeP
    rw [List.length_map]
    exact ho
  · intro r hr
    unfold changeP at hr
    rw [List.mem_map] at hr
    obtain ⟨_, _, rfl⟩ := hr
    simp
  · unfold afterF at k
    unfold FndP at k ⊢
    intro kind rs pl pe u' h1 h2 h3 h4 h5
    exact keepK (k kind rs pl pe u' h1 h2 h3 h4 h5)
end Ob
/-! part W2c -/
namespace Ob
open PySem L2
local macro_rules | `(tactic| walk_at "wp") => `(tactic| simp only [q_wpE_c, q_wpE_slot, q_wpE_bin, q_wpE_neg, q_wpE_not, q_wpE_or, q_wpE_and, q_wpE_cmp, q_wpE_chain, q_wpE_ife, q_wpE_tup, q_wpE_lst, q_wpE_ix, q_wpE_cut, q_att, blD_eq, mvD_eq, ndD_eq, sq_pD, sq_lm, is_non, is_bl, is_int, is_lst, eq_nn, in_bl, in_lst, decide_true, am_1, am_2, am_3, ar_7, ar_2, ar_8, ar_9, ag_7, ag_2, ag_10, ag_8, ag_9, ck_n, ck_n1, cl_i, cl_i1, cl_n1, ci_t, ci_l, cn_t, cn_l, q_wpE_len, q_wpE_list, q_wpE_tuple, q_wpE_sum, q_wpE_min1, q_wpE_min2, q_wpE_int, q_wpE_all, q_wpE_sset, q_wpE_mdict, q_wpE_isi, q_wpE_pop, q_wpE_app, q_wpE_exd, q_wpE_call, q_wpE_meth, q_wpE_new, q_wpE_fz, q_wpE_bor, q_wpA_nil, q_wpA_cons, q_wpA_star, q_wpT_tv, q_wpT_tnot, q_wpT_tand, q_wpT_tor, q_wpT_noE, q_wpO_noE, q_wpO_tv, q_wpI_iSeq, q_wpI_iRan, q_wpI_iRan2, q_wpI_iEnum, q_wpI_iZip, q_wpI_iRev, e_lc, wpG, wpG.wpGs, wipeD, List.map_cons, List.map_nil, List.append_nil, List.cons_append, List.nil_append, List.replicate, List.length_cons, List.length_nil, List.length_map, Nat.reduceSub, Nat.reduceAdd, tN, enum_map,
  List.set_cons_zero, List.set_cons_succ, List.getElem?_cons_zero, List.getElem?_cons_succ, Option.some.injEq, Dt.int.injEq, Dt.bl.injEq, Dt.lst.injEq, Dt.tup.injEq, Dt.ins.injEq, Dt.adr.injEq, Cell.lst.injEq, Cell.ins.injEq, exists_eq_right, exists_eq_right', Prod.mk.injEq, exists_eq_left', exists_eq_left, exists_and_left, exists_eq', exists_eq, true_and, and_true, List.cons.injEq, and_self, and_assoc,
  bk_addi, bk_sub, bk_mul, bk_mod, bk_div, bk_pow, bk_cat, bk_rep, nk_f, nk_t, sq_lst, sq_tup, sq_pr, ls_lst, fz_lst, fz_tup, ts_non, ts_bl, ts_pr, cm_lt, cm_le, cm_gt, cm_ge, cm_eq, cm_ne, cm_eqb, cm_neb, cm_is, cm_isn, in_non, in_int, in_pr, in_o, in_oi, gt_hd, pt_hd, dl_hd,
  at_0, at_1, at_2, at_3, at_4, oD_n, oD_s, oi_n, oi_s, Option.isNone_none, Option.isNone_some, lim_0, lim_1, lim_2, lim_3, lim_4, lim_5, lim_6, lim_7, Int.natCast_nonneg, Int.ofNat_le, Bool.not_true, Bool.true_or, Bool.false_or, Bool.or_true, Bool.or_false, Bool.true_and, Bool.false_and, Bool.and_true, Bool.and_false, List.contains_cons, List.contains_nil, Nat.reduceBEq, Bool.not_false, Bool.true_eq_false, Bool.false_eq_true, false_imp_iff, true_imp_iff, reduceCtorEq, forall_const, Nat.reduceLT, Nat.reduceLeDiff, eq_self, forall_eq', forall_eq])
local macro_rules | `(tactic| walk_at "go") => `(tactic| (try dsimp only); (try walk_at "wp"); repeat (first | refine seq_i ?_ | (refine asg_i ?_; try walk_at "wp") | (refine drop_i ?_; try walk_at "wp") | (refine ret_i ?_; try walk_at "wp") | (refine forr_i ?_; try walk_at "wp") | (refine iff_i ?_; try walk_at "wp") | (refine seti_i ?_; try walk_at "wp") | (refine augi_i ?_; try walk_at "wp") | (refine seta_i ?_; try walk_at "wp") | (refine skip_i ?_; try walk_at "wp")))
/-! Walks: the machine made. -/
theorem all_bls {α : Type} (f : α → Bool) (xs : List α) : blsOf (xs.map fun x => .bl (f x)) = some (xs.map f) := by
  induction xs with
  | nil => rfl
  | cons x xs ih =>
    show (blsOf (xs.map fun x => .bl (f x))).map (f x :: ·) = _
    rw [ih]
    rfl
theorem d_Machine_init (F : Nat → FS) : Does F 10 5 b_Machine_init S_Machine_init := by
  rintro ds u K ⟨p, q, u0, rfl, rfl, qo, k⟩
  refine ⟨rfl, ?_⟩
  obtain ⟨hL1, hL3⟩ := qo.L
  obtain ⟨hn1, hn3⟩ := qo.n
  have d1 : decide ((0 : Int) < (q.L : Int)) = true := by simp; omega
  have d2 : decide ((q.L : Int) ≤ 4) = true := by simp; omega
  have d3 : decide ((0 : Int) < (q.n : Int)) = true := by simp; omega
  have d4 : decide ((q.n : Int) ≤ 8) = true := by simp; omega
  have inr_ : ∀ {c : Int}, 0 ≤ c ∧ c < (q.n : Int) → (decide (0 ≤ c) = true ∧ decide (c < (q.n : Int)) = true) := by
    intro c hc
    simp
    exact hc
  simp only [st0]
  unfold b_Machine_init
  walk_at "go"
  simp only [d1]
  walk_at "go"
  simp only [d2]
  walk_at "go"
  simp only [d3]
  walk_at "go"
  simp only [d4]
  walk_at "go"
  refine for_I (fun i l2 u2 => u2 = (p, .ins 0 []) :: u0 ∧ ∃ a b c d e, l2 = [some (.adr p), some (.int q.L), some (.int q.n), some (.lst (q.mv.map mvD)), some (.lst (q.en.map .int)), a, b, c, d, e]) ⟨rfl, _, _, _, _, _, rfl⟩ ?_ ?_
  · rintro i ⟨letter, ch, lab⟩ l2 u2 hx ⟨rfl, a, b, c, d, e, rfl⟩
    have hm := List.mem_of_getElem? hx
    have hlet := qo.let_ _ hm
    have hlab := qo.lab _ hm
    have hch := qo.ch _ hm
    simp only at hlet hlab hch
    walk_at "go"
    refine ⟨by simp only [LIM, List.length_append, List.length_map, List.length_cons, List.length_nil]; omega, ?_⟩
    have e1 : (ch.map Dt.int ++ [Dt.int lab]) = (ch ++ [lab]).map .int := by simp
    rw [e1]
    have hall : ∀ c ∈ ch ++ [lab], 0 ≤ c ∧ c < (q.n : Int) := by
      intro c hc
      rw [List.mem_append, List.mem_singleton] at hc
      rcases hc with hc | hc
      · exact hch.2 c hc
      · subst hc
        exact hlab
    refine lc_m (fun _ => .bl true) (by simp only [LIM, List.length_append, List.length_cons, List.length_nil]; omega) (fun c hc J hj => ?_) ?_
    · obtain ⟨h1, h2⟩ := inr_ (hall c hc)
      walk_at "go"
      simp only [h1]
      walk_at "go"
      simp only [h2]
      exact hj
    walk_at "go"
    refine ⟨_, all_bls (fun _ => true) _, ?_⟩
    have e2 : ((ch ++ [lab]).map fun _ => true).all id = true := by
      rw [List.all_map, List.all_eq_true]
      intros
      rfl
    rw [e2]
    walk_at "go"
    have h1 : decide (0 ≤ letter) = true := by simp; exact hlet.1
    have h2 : decide (letter < (q.L : Int)) = true := by simp; exact hlet.2
    have h3 : decide ((2 : Int) < (ch.length : Int)) = false := by simp; omega
    simp only [h1]
    walk_at "go"
    simp only [h2]
    walk_at "go"
    simp only [h3]
    walk_at "go"
  · rintro l4 u4 ⟨rfl, a, b, c, d, e, rfl⟩
    walk_at "go"
    refine lc_m (fun _ => .bl true) (by have := qo.efew; simp only [LIM]; omega) (fun c hc J hj => ?_) ?_
    · obtain ⟨h1, h2⟩ := inr_ (qo.eok c hc)
      walk_at "go"
      simp only [h1]
      walk_at "go"
      simp only [h2]
      exact hj
    walk_at "go"
    refine ⟨_, all_bls (fun _ => true) _, ?_⟩
    have e2 : (q.en.map fun _ => true).all id = true := by
      rw [List.all_map, List.all_eq_true]
      intros
      rfl
    rw [e2]
    walk_at "go"
    refine lc_m mvD (by have := qo.few; simp only [LIM]; omega) (fun y hy J hj => ?_) ?_
    · obtain ⟨a1, a2, a3⟩ := y
      walk_at "go"
      exact ⟨_, .inl rfl, hj⟩
    walk_at "go"
    refine .inl ⟨q.mv, rfl, by have := qo.few; omega, fun os hnd hos => ?_⟩
    walk_at "go"
    refine ⟨_, .inr rfl, ?_⟩
    walk_at "go"
    refine .inr ⟨q.en, rfl, by have := qo.efew; omega, fun es hnd2 hes => ?_⟩
    walk_at "go"
    refine ⟨_, .inr rfl, ?_⟩
    walk_at "go"
    exact keepK (k ⟨q.L, q.n, os, es⟩ ⟨rfl, rfl, hnd, hos, hes, hnd2⟩)
end Ob
/-! part W7 -/
namespace Ob
open PySem L2
local macro_rules | `(tactic| walk_at "wp") => `(tactic| simp only [q_wpE_c, q_wpE_slot, q_wpE_bin, q_wpE_neg, q_wpE_not, q_wpE_or, q_wpE_and, q_wpE_cmp, q_wpE_chain, q_wpE_ife, q_wpE_tup, q_wpE_lst, q_wpE_ix, q_wpE_cut, q_att, blD_eq, mvD_eq, ndD_eq, sq_pD, sq_lm, is_non, is_bl, is_int, is_lst, eq_nn, in_bl, in_lst, decide_true, am_1, am_2, am_3, ar_7, ar_2, ar_8, ar_9, ag_7, ag_2, ag_10, ag_8, ag_9, ck_n, ck_n1, cl_i, cl_i1, cl_n1, ci_t, ci_l, cn_t, cn_l, q_wpE_len, q_wpE_list, q_wpE_tuple, q_wpE_sum, q_wpE_min1, q_wpE_min2, q_wpE_int, q_wpE_all, q_wpE_sset, q_wpE_mdict, q_wpE_isi, q_wpE_pop, q_wpE_app, q_wpE_exd, q_wpE_call, q_wpE_meth, q_wpE_new, q_wpE_fz, q_wpE_bor, q_wpA_nil, q_wpA_cons, q_wpA_star, q_wpT_tv, q_wpT_tnot, q_wpT_tand, q_wpT_tor, q_wpT_noE, q_wpO_noE, q_wpO_tv, q_wpI_iSeq, q_wpI_iRan, q_wpI_iRan2, q_wpI_iEnum, q_wpI_iZip, q_wpI_iRev, e_lc, wpG, wpG.wpGs, wipeD, List.map_cons, List.map_nil, List.append_nil, List.cons_append, List.nil_append, List.replicate, List.length_cons, List.length_nil, List.length_map, Nat.reduceSub, Nat.reduceAdd, tN, enum_map,
  List.set_cons_zero, List.set_cons_succ, List.getElem?_cons_zero, List.getElem?_cons_succ, Option.some.injEq, Dt.int.injEq, Dt.bl.injEq, Dt.lst.injEq, Dt.tup.injEq, Dt.ins.injEq, Dt.adr.injEq, Cell.lst.injEq, Cell.ins.injEq, exists_eq_right, exists_eq_right', Prod.mk.injEq, exists_eq_left', exists_eq_left, exists_and_left, exists_eq', exists_eq, true_and, and_true, List.cons.injEq, and_self, and_assoc,
  bk_addi, bk_sub, bk_mul, bk_mod, bk_div, bk_pow, bk_cat, bk_rep, nk_f, nk_t, sq_lst, sq_tup, sq_pr, ls_lst, fz_lst, fz_tup, ts_non, ts_bl, ts_pr, cm_lt, cm_le, cm_gt, cm_ge, cm_eq, cm_ne, cm_eqb, cm_neb, cm_is, cm_isn, in_non, in_int, in_pr, in_o, in_oi, gt_hd, pt_hd, dl_hd,
  at_0, at_1, at_2, at_3, at_4, oD_n, oD_s, oi_n, oi_s, Option.isNone_none, Option.isNone_some, lim_0, lim_1, lim_2, lim_3, lim_4, lim_5, lim_6, lim_7, Int.natCast_nonneg, Int.ofNat_le, Bool.not_true, Bool.true_or, Bool.false_or, Bool.or_true, Bool.or_false, Bool.true_and, Bool.false_and, Bool.and_true, Bool.and_false, List.contains_cons, List.contains_nil, Nat.reduceBEq, Bool.not_false, Bool.true_eq_false, Bool.false_eq_true, false_imp_iff, true_imp_iff, reduceCtorEq, forall_const, Nat.reduceLT, Nat.reduceLeDiff, eq_self, forall_eq', forall_eq])
local macro_rules | `(tactic| walk_at "go") => `(tactic| (try dsimp only); (try walk_at "wp"); repeat (first | refine seq_i ?_ | (refine asg_i ?_; try walk_at "wp") | (refine drop_i ?_; try walk_at "wp") | (refine ret_i ?_; try walk_at "wp") | (refine forr_i ?_; try walk_at "wp") | (refine iff_i ?_; try walk_at "wp") | (refine seti_i ?_; try walk_at "wp") | (refine augi_i ?_; try walk_at "wp") | (refine seta_i ?_; try walk_at "wp") | (refine skip_i ?_; try walk_at "wp")))
/-! Walks: what is told. -/
theorem get_ex {α : Type} {xs : List α} {i : Nat} (h : i < xs.length) : ∃ y, xs[i]? = some y := ⟨_, List.getElem?_eq_getElem h⟩
structure Fr where
  x : Fnd
  kind : Dt
  rs : List Addr
  pl : Addr
  pe : Addr
def frD (r : Fr) : Dt := .ins 1 [(4, r.kind), (5, oiD r.x.cost), (1, .adr r.pl), (6, .lst (r.rs.map .adr)), (3, .adr r.pe)]
structure FrAt (u : Mu) (r : Fr) : Prop where
  len : r.rs.length = r.x.numbers.length
  rows : ∀ (i : Nat) (p : Addr) (y : List (Option Int)), r.rs[i]? = some p → r.x.numbers[i]? = some y → get u p = some (.lst (y.map oiD))
  pl : get u r.pl = some (.lst (r.x.labels.map .int))
  pe : get u r.pe = some (.lst (r.x.ends.map oiD))
section
variable {u : Mu} {K : Dt → Mu → Prop}
theorem af_5 (r : Fr) : attK u (frD r) 5 K = K (oiD r.x.cost) u := attK_ins rfl (by decide)
theorem af_1 (r : Fr) : attK u (frD r) 1 K = K (.adr r.pl) u := attK_ins rfl (by decide)
theorem af_6 (r : Fr) : attK u (frD r) 6 K = K (.lst (r.rs.map .adr)) u := attK_ins rfl (by decide)
theorem af_3 (r : Fr) : attK u (frD r) 3 K = K (.adr r.pe) u := attK_ins rfl (by decide)
end
theorem FrAt.mono {u u' : Mu} {r : Fr} (h : FrAt u r) (k : ∀ p c, get u p = some c → get u' p = some c) : FrAt u' r := ⟨h.len, fun i p y h1 h2 => k _ _ (h.rows i p y h1 h2), k _ _ h.pl, k _ _ h.pe⟩
def cellD (u : Mu) (p : Addr) : Dt := match get u p with
  | some (.lst ds) => .lst ds
  | _ => .non
theorem cellD_eq {u : Mu} {p : Addr} {ds : List Dt} (h : get u p = some (.lst ds)) : cellD u p = .lst ds := by
  unfold cellD
  rw [h]
theorem cells_eq {u : Mu} {rs : List Addr} {xs : List (List (Option Int))} (hl : rs.length = xs.length) (h : ∀ (i : Nat) (p : Addr) (y : List (Option Int)), rs[i]? = some p → xs[i]? = some y → get u p = some (.lst (y.map oiD))) : rs.map (cellD u) = xs.map fun r => .lst (r.map oiD) := by
  apply List.ext_getElem?
  intro i
  rw [List.getElem?_map, List.getElem?_map]
  by_cases hi : i < rs.length
  · have e1 := List.getElem?_eq_getElem hi
    have e2 := List.getElem?_eq_getElem (l := xs) (i := i) (by omega)
    rw [e1, e2]
    simp only [Option.map_some]
    rw [cellD_eq (h i _ _ e1 e2)]
  · rw [List.getElem?_eq_none (by omega), List.getElem?_eq_none (by omega)]
    rfl
/-- addresses that may be lengthened -/
def LenI (A : List Addr) (u : Mu) (s : Nat) : Prop := ∀ a ∈ A, ∃ ds, get u a = some (.lst ds) ∧ ds.length ≤ 1000 + s
theorem len_app {A : List Addr} {u : Mu} {s : Nat} {a : Addr} (h : LenI A u s) (ha : a ∈ A) : ∃ ds, get u a = some (.lst ds) ∧ ds.length ≤ 1000 + s ∧ ∀ x, LenI A (put u a (.lst (ds ++ [x]))) (s + 1) := by
  obtain ⟨ds, h1, h2⟩ := h a ha
  refine ⟨ds, h1, h2, fun x b hb => ?_⟩
  by_cases e : a = b
  · subst e
    exact ⟨_, get_put h1, by simp; omega⟩
  · obtain ⟨ds2, h3, h4⟩ := h b hb
    exact ⟨ds2, by rw [get_put_ne e]; exact h3, by omega⟩
theorem best_all {m : Mac} {P : List (List Int)} {f : Option Int} {t : Tr} : ∀ i, i ≤ t.size → BestI m i (((nodes t).zipIdx.take i).foldl (doneStep m P f) [])
  | 0, _ => ⟨rfl, by simp, by simp⟩
  | i + 1, hi => by
    have h := best_all (m := m) (P := P) (f := f) (t := t) i (by omega)
    have hl : i < (nodes t).length := by rw [nodes_len]; omega
    have e : (nodes t).zipIdx[i]? = some ((nodes t)[i], i) := by
      rw [List.getElem?_zipIdx, List.getElem?_eq_getElem hl]
      simp
    rw [List.take_add_one, e, List.foldl_append]
    exact best_step h (nodes_ch (List.getElem?_eq_getElem hl)).1
structure Small (m : Mac) (x : Fnd) : Prop where
  num : x.numbers.length ≤ 4
  row : ∀ r ∈ x.numbers, r.length ≤ 8
  lab : x.labels.length ≤ 100
  ends : x.ends.length ≤ 8
theorem best_small (m : Mac) (t : Tr) (P : List (List Int)) (f : Option Int) (mo : m.Ok) (ht : t.size ≤ 4) : Small m (bestF m t P f) := by
  have hpos := size_pos t
  have hI := best_all (m := m) (P := P) (f := f) (t := t) t.size (Nat.le_refl _)
  rw [List.take_of_length_le (by rw [List.length_zipIdx, nodes_len]; exact Nat.le_refl _)] at hI
  have hI : BestI m t.size (doneF m P f (nodes t)) := hI
  have h15 : 2 ^ t.size ≤ 2 ^ 4 := Nat.pow_le_pow_right (by decide) ht
  have hn8 := mo.n
  have hends : ∀ q, some q ∈ endsF m P f (nodes t) → q.2.length ≤ 31 := by
    intro q hq
    unfold endsF at hq
    have hl : ((nodes t).getLastD (0, [])).2.length ≤ 2 := by
      obtain ⟨y1, h1⟩ := get_ex (xs := nodes t) (i := t.size - 1) (by rw [nodes_len]; omega)
      rw [List.getLastD_eq_getLast?, List.getLast?_eq_getElem?, nodes_len, h1]
      exact (nodes_ch h1).1
    have := rowF_le (best_below hI hl) q hq
    omega
  refine ⟨?_, ?_, ?_, ?_⟩
  · show ((doneF m P f (nodes t)).map fun r => r.map costOf).length ≤ 4
    rw [List.length_map, hI.len]
    exact ht
  · intro r hr
    have hr2 : r ∈ (doneF m P f (nodes t)).map fun r => r.map costOf := hr
    rw [List.mem_map] at hr2
    obtain ⟨y, hy, rfl⟩ := hr2
    rw [List.length_map, hI.row y hy]
    exact hn8
  · show (match (endsF m P f (nodes t)).foldl better none with | none => ([] : List Int) | some p => p.2).length ≤ 100
    have h9 : ∀ q, (endsF m P f (nodes t)).foldl better none = some q → q.2.length ≤ 31 :=
      fold_mem (P := fun b : Option Pr => ∀ q, b = some q → q.2.length ≤ 31) _ none (by simp) (fun b o ho hb => better_le hb (fun q hq => hends q (by rw [← hq]; exact ho)))
    cases e : (endsF m P f (nodes t)).foldl better none with
    | none => simp
    | some q =>
      have := h9 q e
      simp only
      omega
  · show ((endsF m P f (nodes t)).map costOf).length ≤ 8
    rw [List.length_map]
    unfold endsF
    rw [rowF_len]
    exact hn8
theorem ls_cat {u : Mu} {K : Dt → Mu → Prop} {p : Addr} {a b : List Dt} (h : get u p = some (.lst a)) (hl : a.length + b.length ≤ LIM) (k : K (.lst (a ++ b)) u) : binK .Add false (.adr p) (.lst b) u K := by
  rw [bk_cata h]
  exact ⟨hl, k⟩
theorem d_tree_told (F : Nat → FS) (h2 : F 2 = S_ways) (h3 : F 3 = S_wishes) (h12 : F 12 = S_best) (h13 : F 13 = S_fewest) (h14 : F 14 = S_after) : Does F 9 5 b_law_tree_told S_ltree_told := by
  rintro ds u K ⟨m, t, P, f, old, rfl, rfl, mo, hm10, ht, hP, hPr, ho, k⟩
  refine ⟨rfl, ?_⟩
  have hpos := size_pos t
  have hn8 := mo.n
  simp only [st0]
  unfold b_law_tree_told
  walk_at "go"
  rw [h12]
  refine ⟨m, t, P, f, rfl, mo, ht, hP, hPr, ?_⟩
  intro kind1 rs1 pl1 pe1 u1 a1 a2 a3 a4 a5
  have hf1 : FrAt u1 ⟨bestF m t P f, kind1, rs1, pl1, pe1⟩ := ⟨a1, a2, a3, a4⟩
  clear a1 a2 a3 a4
  have e1 : Dt.ins 1 [(4, kind1), (5, oiD (bestF m t P f).cost), (1, .adr pl1), (6, .lst (rs1.map .adr)), (3, .adr pe1)] = frD ⟨bestF m t P f, kind1, rs1, pl1, pe1⟩ := rfl
  rw [e1]
  generalize hfr1 : (⟨bestF m t P f, kind1, rs1, pl1, pe1⟩ : Fr) = f1 at hf1
  have hx1 : f1.x = bestF m t P f := by rw [← hfr1]
  walk_at "go"
  rw [h13]
  refine ⟨m, t, rfl, mo, ht, ?_⟩
  intro kind2 rs2 pl2 pe2 u2 a1 a2 a3 a4 b5
  have hf2 : FrAt u2 ⟨fewestF m t, kind2, rs2, pl2, pe2⟩ := ⟨a1, a2, a3, a4⟩
  clear a1 a2 a3 a4
  have e2 : Dt.ins 1 [(4, kind2), (5, oiD (fewestF m t).cost), (1, .adr pl2), (6, .lst (rs2.map .adr)), (3, .adr pe2)] = frD ⟨fewestF m t, kind2, rs2, pl2, pe2⟩ := rfl
  rw [e2]
  generalize hfr2 : (⟨fewestF m t, kind2, rs2, pl2, pe2⟩ : Fr) = f2 at hf2
  have hx2 : f2.x = fewestF m t := by rw [← hfr2]
  walk_at "go"
  rw [h14]
  refine ⟨m, t, old, rfl, mo, ht, ho, ?_⟩
  intro kind3 rs3 pl3 pe3 u3 a1 a2 a3 a4 c5
  have hf3 : FrAt u3 ⟨afterF m t old, kind3, rs3, pl3, pe3⟩ := ⟨a1, a2, a3, a4⟩
  clear a1 a2 a3 a4
  have e3 : Dt.ins 1 [(4, kind3), (5, oiD (afterF m t old).cost), (1, .adr pl3), (6, .lst (rs3.map .adr)), (3, .adr pe3)] = frD ⟨afterF m t old, kind3, rs3, pl3, pe3⟩ := rfl
  rw [e3]
  generalize hfr3 : (⟨afterF m t old, kind3, rs3, pl3, pe3⟩ : Fr) = f3 at hf3
  have hx3 : f3.x = afterF m t old := by rw [← hfr3]
  have hs1 : Small m f1.x := by rw [hx1]; exact best_small m t P f mo ht
  have hs2 : Small m f2.x := by rw [hx2]; exact best_small m t _ _ mo ht
  have hs3 : Small m f3.x := by rw [hx3]; exact best_small m t _ _ mo ht
  have hall : ∀ r ∈ [f1, f2, f3], FrAt u3 r ∧ Small m r.x := by
    intro r hr
    simp only [List.mem_cons, List.not_mem_nil, or_false] at hr
    rcases hr with rfl | rfl | rfl
    · exact ⟨(hf1.mono b5).mono c5, hs1⟩
    · exact ⟨hf2.mono c5, hs2⟩
    · exact ⟨hf3, hs3⟩
  have hk : ∀ u', K (treeAn (fAn f1.x) (fAn f2.x) (fAn f3.x) (waysF m t)) u' := by
    rw [hx1, hx2, hx3]
    exact k
  clear hfr1 hfr2 hfr3 hf1 hf2 hf3 e1 e2 e3 hx1 hx2 hx3 hs1 hs2 hs3
  walk_at "go"
  intro q hq
  walk_at "go"
  have hmap : [frD f1, frD f2, frD f3] = [f1, f2, f3].map frD := rfl
  rw [hmap]
  have htold : [anD (fAn f1.x), anD (fAn f2.x), anD (fAn f3.x)] = [f1, f2, f3].map fun r => anD (fAn r.x) := rfl
  have hkk : ∀ u', K (.lst (([f1, f2, f3].map fun r => anD (fAn r.x)) ++ [.int (waysF m t), .bl (decide (0 < waysF m t))])) u' := fun u' => hk u'
  have hlen3 : [f1, f2, f3].length = 3 := rfl
  generalize [f1, f2, f3] = fs at hall hkk hlen3 ⊢
  refine for_I (xs := fs) (enc := frD) (fun i l2 u4 => u4 = (q, .lst ((fs.take i).map fun r => anD (fAn r.x))) :: u3 ∧ ∃ a b, l2 = [some (macD m), some (treeD t), some (pD P), some (oiD f), some (liD old), some (.lst (fs.map frD)), some (.adr q), a, b]) ⟨rfl, _, _, rfl⟩ ?_ ?_
  · rintro i r l2 u4 hr ⟨rfl, a, b, rfl⟩
    obtain ⟨hfr, hsm⟩ := hall r (List.mem_of_getElem? hr)
    rw [map_take hr]
    have hacc : ((fs.take i).map fun r => anD (fAn r.x)).length ≤ 3 := by
      rw [List.length_map, List.length_take]
      omega
    generalize (fs.take i).map (fun r => anD (fAn r.x)) = acc at hacc ⊢
    have htl : ∀ p c, get u3 p = some c → get ((q, .lst acc) :: u3) p = some c := fun p c h => by
      rw [gt_tl _ (ne_fresh h hq)]
      exact h
    have hfr2 := hfr.mono htl
    walk_at "go"
    try simp only [af_5, af_1, af_6, af_3]
    walk_at "go"
    rw [sq_adr hfr2.pl]
    walk_at "go"
    try simp only [af_5, af_1, af_6, af_3]
    walk_at "go"
    refine lc_m (cellD ((q, .lst acc) :: u3)) (by rw [hfr.len]; have := hsm.num; simp only [LIM]; omega) (fun p hp J hj => ?_) ?_
    · obtain ⟨j, hj2⟩ := List.mem_iff_getElem?.mp hp
      have hjl := (List.getElem?_eq_some_iff.mp hj2).1
      obtain ⟨y9, e9⟩ := get_ex (xs := r.x.numbers) (i := j) (by rw [← hfr.len]; exact hjl)
      have h9 := hfr2.rows j p _ hj2 e9
      rw [cellD_eq h9] at hj
      walk_at "go"
      rw [sq_adr h9]
      walk_at "go"
      exact hj
    rw [cells_eq hfr2.len hfr2.rows]
    walk_at "go"
    try simp only [af_5, af_1, af_6, af_3]
    walk_at "go"
    rw [sq_adr hfr2.pe]
    walk_at "go"
    exact ⟨by simp only [LIM]; omega, rfl⟩
  · rintro l4 u4 ⟨rfl, a, b, rfl⟩
    rw [List.take_length]
    walk_at "go"
    have hA : LenI (fs.flatMap fun r => r.pl :: r.pe :: r.rs) ((q, .lst (fs.map fun r => anD (fAn r.x))) :: u3) 0 := by
      intro a ha
      rw [List.mem_flatMap] at ha
      obtain ⟨r, hr, ha⟩ := ha
      obtain ⟨hfr, hsm⟩ := hall r hr
      have htl : ∀ p c, get u3 p = some c → get ((q, .lst (fs.map fun r => anD (fAn r.x))) :: u3) p = some c := fun p c h => by
        rw [gt_tl _ (ne_fresh h hq)]
        exact h
      have hfr2 := hfr.mono htl
      simp only [List.mem_cons] at ha
      rcases ha with rfl | rfl | ha
      · exact ⟨_, hfr2.pl, by rw [List.length_map]; have := hsm.lab; omega⟩
      · exact ⟨_, hfr2.pe, by rw [List.length_map]; have := hsm.ends; omega⟩
      · obtain ⟨j, hj2⟩ := List.mem_iff_getElem?.mp ha
        have hjl := (List.getElem?_eq_some_iff.mp hj2).1
        obtain ⟨y9, e9⟩ := get_ex (xs := r.x.numbers) (i := j) (by rw [← hfr.len]; exact hjl)
        exact ⟨_, hfr2.rows j a _ hj2 e9, by rw [List.length_map]; have := hsm.row _ (List.mem_of_getElem? e9); omega⟩
    have hqA : q ∉ fs.flatMap fun r => r.pl :: r.pe :: r.rs := by
      intro ha
      rw [List.mem_flatMap] at ha
      obtain ⟨r, hr, ha⟩ := ha
      obtain ⟨hfr, hsm⟩ := hall r hr
      simp only [List.mem_cons] at ha
      rcases ha with rfl | rfl | ha
      · exact hq (get_adr hfr.pl)
      · exact hq (get_adr hfr.pe)
      · obtain ⟨j, hj2⟩ := List.mem_iff_getElem?.mp ha
        have hjl := (List.getElem?_eq_some_iff.mp hj2).1
        obtain ⟨y9, e9⟩ := get_ex (xs := r.x.numbers) (i := j) (by rw [← hfr.len]; exact hjl)
        exact hq (get_adr (hfr.rows j q _ hj2 e9))
    have hrA : ∀ r ∈ fs, r.pl ∈ (fs.flatMap fun r => r.pl :: r.pe :: r.rs) ∧ r.pe ∈ (fs.flatMap fun r => r.pl :: r.pe :: r.rs) ∧ ∀ p ∈ r.rs, p ∈ (fs.flatMap fun r => r.pl :: r.pe :: r.rs) := by
      intro r hr
      refine ⟨List.mem_flatMap.mpr ⟨r, hr, List.mem_cons_self⟩, List.mem_flatMap.mpr ⟨r, hr, List.mem_cons_of_mem _ List.mem_cons_self⟩, fun p hp => List.mem_flatMap.mpr ⟨r, hr, List.mem_cons_of_mem _ (List.mem_cons_of_mem _ hp)⟩⟩
    generalize (fs.flatMap fun r => r.pl :: r.pe :: r.rs) = A at hA hqA hrA
    have hq0 : get ((q, Cell.lst (fs.map fun r => anD (fAn r.x))) :: u3) q = some (.lst (fs.map fun r => anD (fAn r.x))) := gt_hd _ _
    generalize (q, Cell.lst (fs.map fun r => anD (fAn r.x))) :: u3 = u5 at hA hq0
    refine for_I (xs := fs) (enc := frD) (fun i l2 u4 => (∃ s, s ≤ i * 10 ∧ LenI A u4 s) ∧ get u4 q = some (.lst (fs.map fun r => anD (fAn r.x))) ∧ ∃ a b, l2 = [some (macD m), some (treeD t), some (pD P), some (oiD f), some (liD old), some (.lst (fs.map frD)), some (.adr q), a, b]) ⟨⟨0, by omega, hA⟩, hq0, _, _, rfl⟩ ?_ ?_
    · rintro i r l2 u4 hr ⟨⟨s, hs, hLen⟩, hgq, a, b, rfl⟩
      have hmr := List.mem_of_getElem? hr
      have hif := (List.getElem?_eq_some_iff.mp hr).1
      obtain ⟨hfr, hsm⟩ := hall r hmr
      obtain ⟨hrpl, hrpe, hrrs⟩ := hrA r hmr
      have nq : ∀ p ∈ A, p ≠ q := fun p hp e => hqA (by rw [← e]; exact hp)
      have hnum := hsm.num
      walk_at "go"
      try simp only [af_5, af_1, af_6, af_3]
      walk_at "go"
      refine for_I (xs := r.rs) (enc := Dt.adr) (fun i2 l2 u6 => (∃ s, s ≤ i * 10 + i2 ∧ LenI A u6 s) ∧ get u6 q = some (.lst (fs.map fun r => anD (fAn r.x))) ∧ ∃ b, l2 = [some (macD m), some (treeD t), some (pD P), some (oiD f), some (liD old), some (.lst (fs.map frD)), some (.adr q), some (frD r), b]) ⟨⟨s, by omega, hLen⟩, hgq, _, rfl⟩ ?_ ?_
      · rintro i2 p l3 u6 hp ⟨⟨s2, hs2, hLen2⟩, hgq2, b2, rfl⟩
        have hpA := hrrs p (List.mem_of_getElem? hp)
        have hi2 := (List.getElem?_eq_some_iff.mp hp).1
        rw [hfr.len] at hi2
        obtain ⟨ds, hg, hl, hput⟩ := len_app hLen2 hpA
        walk_at "go"
        refine ⟨_, hg, _, hg, by simp only [LIM]; omega, ⟨s2 + 1, by omega, hput _⟩, ?_⟩
        rw [get_put_ne (nq p hpA)]
        exact hgq2
      · rintro l5 u6 ⟨⟨s2, hs2, hLen2⟩, hgq2, b2, rfl⟩
        rw [hfr.len] at hs2
        obtain ⟨ds, hg, hl, hput⟩ := len_app hLen2 hrpl
        walk_at "go"
        try simp only [af_5, af_1, af_6, af_3]
        walk_at "go"
        refine ⟨_, hg, _, hg, by simp only [LIM]; omega, ?_⟩
        obtain ⟨ds3, hg3, hl3, hput3⟩ := len_app (hput (.int 7)) hrpe
        walk_at "go"
        try simp only [af_5, af_1, af_6, af_3]
        walk_at "go"
        refine ⟨_, hg3, _, hg3, by simp only [LIM]; omega, ⟨s2 + 1 + 1, by omega, hput3 _⟩, ?_⟩
        rw [get_put_ne (nq _ hrpe), get_put_ne (nq _ hrpl)]
        exact hgq2
    · rintro l5 u6 ⟨_, hgq, a, b, rfl⟩
      walk_at "go"
      rw [h2]
      refine ⟨m, t, rfl, mo, hm10, ht, ?_⟩
      walk_at "go"
      rw [h3]
      refine ⟨m, t, rfl, mo, hm10, ht, ?_⟩
      walk_at "go"
      refine ls_cat hgq (by rw [List.length_map, hlen3]; show 3 + 2 ≤ LIM; decide) ?_
      exact keepK (hkk _)
end Ob
/-! part Xg -/
namespace Ob
open PySem L2
local macro_rules | `(tactic| walk_at "wp") => `(tactic| simp only [q_wpE_c, q_wpE_slot, q_wpE_bin, q_wpE_neg, q_wpE_not, q_wpE_or, q_wpE_and, q_wpE_cmp, q_wpE_chain, q_wpE_ife, q_wpE_tup, q_wpE_lst, q_wpE_ix, q_wpE_cut, q_att, blD_eq, mvD_eq, ndD_eq, sq_pD, sq_lm, is_non, is_bl, is_int, is_lst, eq_nn, in_bl, in_lst, decide_true, am_1, am_2, am_3, ar_7, ar_2, ar_8, ar_9, ag_7, ag_2, ag_10, ag_8, ag_9, ck_n, ck_n1, cl_i, cl_i1, cl_n1, ci_t, ci_l, cn_t, cn_l, q_wpE_len, q_wpE_list, q_wpE_tuple, q_wpE_sum, q_wpE_min1, q_wpE_min2, q_wpE_int, q_wpE_all, q_wpE_sset, q_wpE_mdict, q_wpE_isi, q_wpE_pop, q_wpE_app, q_wpE_exd, q_wpE_call, q_wpE_meth, q_wpE_new, q_wpE_fz, q_wpE_bor, q_wpA_nil, q_wpA_cons, q_wpA_star, q_wpT_tv, q_wpT_tnot, q_wpT_tand, q_wpT_tor, q_wpT_noE, q_wpO_noE, q_wpO_tv, q_wpI_iSeq, q_wpI_iRan, q_wpI_iRan2, q_wpI_iEnum, q_wpI_iZip, q_wpI_iRev, e_lc, wpG, wpG.wpGs, wipeD, List.map_cons, List.map_nil, List.append_nil, List.cons_append, List.nil_append, List.replicate, List.length_cons, List.length_nil, List.length_map, Nat.reduceSub, Nat.reduceAdd, tN, enum_map,
  List.set_cons_zero, List.set_cons_succ, List.getElem?_cons_zero, List.getElem?_cons_succ, Option.some.injEq, Dt.int.injEq, Dt.bl.injEq, Dt.lst.injEq, Dt.tup.injEq, Dt.ins.injEq, Dt.adr.injEq, Cell.lst.injEq, Cell.ins.injEq, exists_eq_right, exists_eq_right', Prod.mk.injEq, exists_eq_left', exists_eq_left, exists_and_left, exists_eq', exists_eq, true_and, and_true, List.cons.injEq, and_self, and_assoc,
  bk_addi, bk_sub, bk_mul, bk_mod, bk_div, bk_pow, bk_cat, bk_rep, nk_f, nk_t, sq_lst, sq_tup, sq_pr, ls_lst, fz_lst, fz_tup, ts_non, ts_bl, ts_pr, cm_lt, cm_le, cm_gt, cm_ge, cm_eq, cm_ne, cm_eqb, cm_neb, cm_is, cm_isn, in_non, in_int, in_pr, in_o, in_oi, gt_hd, pt_hd, dl_hd,
  at_0, at_1, at_2, at_3, at_4, oD_n, oD_s, oi_n, oi_s, Option.isNone_none, Option.isNone_some, lim_0, lim_1, lim_2, lim_3, lim_4, lim_5, lim_6, lim_7, Int.natCast_nonneg, Int.ofNat_le, Bool.not_true, Bool.true_or, Bool.false_or, Bool.or_true, Bool.or_false, Bool.true_and, Bool.false_and, Bool.and_true, Bool.and_false, List.contains_cons, List.contains_nil, Nat.reduceBEq, Bool.not_false, Bool.true_eq_false, Bool.false_eq_true, false_imp_iff, true_imp_iff, reduceCtorEq, forall_const, Nat.reduceLT, Nat.reduceLeDiff, eq_self, forall_eq', forall_eq])
local macro_rules | `(tactic| walk_at "go") => `(tactic| (try dsimp only); (try walk_at "wp"); repeat (first | refine seq_i ?_ | (refine asg_i ?_; try walk_at "wp") | (refine drop_i ?_; try walk_at "wp") | (refine ret_i ?_; try walk_at "wp") | (refine forr_i ?_; try walk_at "wp") | (refine iff_i ?_; try walk_at "wp") | (refine seti_i ?_; try walk_at "wp") | (refine augi_i ?_; try walk_at "wp") | (refine seta_i ?_; try walk_at "wp") | (refine skip_i ?_; try walk_at "wp")))
/-! Plain mathematics: the numbers. -/
def minO : Option Int → Option Int → Option Int
  | none, b => b
  | some a, none => some a
  | some a, some b => some (min a b)
theorem cost_better (a b : Option Pr) : costOf (better a b) = minO (costOf a) (costOf b) := by
  cases a with
  | none => cases b <;> rfl
  | some x =>
    cases b with
    | none => rfl
    | some y =>
      show some (prMin x y).1 = some (min x.1 y.1)
      unfold prMin prLt
      by_cases e : y.1 = x.1
      · rw [if_pos e]
        split <;> congr 1 <;> omega
      · rw [if_neg e]
        split
        · rename_i h
          have := of_decide_eq_true h
          congr 1
          omega
        · rename_i h
          have : ¬ y.1 < x.1 := fun h2 => h (decide_eq_true h2)
          congr 1
          omega
theorem cost_fold {α : Type} (g : α → Option Pr) : ∀ (xs : List α) (b : Option Pr), costOf (xs.foldl (fun b x => better b (g x)) b) = xs.foldl (fun c x => minO c (costOf (g x))) (costOf b)
  | [], _ => rfl
  | x :: xs, b => by
    rw [List.foldl_cons, List.foldl_cons, cost_fold g xs, cost_better]
theorem minO_some {α : Type} (h : α → Option Int) : ∀ (xs : List α) (a : Int), xs.foldl (fun c x => minO c (h x)) (some a) = some ((xs.filterMap h).foldl min a)
  | [], _ => rfl
  | x :: xs, a => by
    rw [List.foldl_cons, List.filterMap_cons]
    cases h x with
    | none => exact minO_some h xs a
    | some c => exact minO_some h xs (min a c)
theorem minO_none {α : Type} (h : α → Option Int) : ∀ (xs : List α), xs.foldl (fun c x => minO c (h x)) none = (xs.filterMap h).min?
  | [] => rfl
  | x :: xs => by
    rw [List.foldl_cons, List.filterMap_cons]
    cases h x with
    | none => exact minO_none h xs
    | some c => exact minO_some h xs c
theorem cost_row (m : Mac) (pr : List Int) (f : Option Int) (l : Int) (bl : List Bl) (root : Bool) (lab : Nat) : costOf (bl.foldl (rowStep m pr f l root lab) none) = (bl.filterMap fun e => charged (e.2.1 + pr.getD lab 0) (objB m l e.1 lab root) f).min? := by
  have e : rowStep m pr f l root lab = fun b x => better b ((charged (x.2.1 + pr.getD lab 0) (objB m l x.1 lab root) f).map fun c => (c, x.2.2 ++ [(lab : Int)])) := by
    funext b x
    exact rowStep_eq ..
  rw [e, cost_fold, ← minO_none]
  congr 1
  funext c x
  cases charged (x.2.1 + pr.getD lab 0) (objB m l x.1 lab root) f <;> rfl
theorem sumO_app : ∀ (xs : List (Option Int)) (o : Option Int), sumO (xs ++ [o]) = (sumO xs).bind fun s => o.map (s + ·)
  | [], o => by
    cases o with
    | none => rfl
    | some i => simp [sumO]
  | none :: xs, o => rfl
  | some i :: xs, o => by
    show (sumO (xs ++ [o])).map (i + ·) = ((sumO xs).map (i + ·)).bind fun s => o.map (s + ·)
    rw [sumO_app xs o]
    cases sumO xs with
    | none => rfl
    | some s =>
      cases o with
      | none => rfl
      | some j =>
        simp
        omega
theorem zip_range {α : Type} (xs : List α) (d : α) : xs.zipIdx = (List.range xs.length).map fun i => (xs.getD i d, i) := by
  apply List.ext_getElem?
  intro i
  rw [List.getElem?_zipIdx, List.getElem?_map]
  by_cases h : i < xs.length
  · rw [List.getElem?_range h, List.getElem?_eq_getElem h]
    simp [List.getD_eq_getElem?_getD, h]
  · rw [List.getElem?_eq_none (by omega), List.getElem?_eq_none (by rw [List.length_range]; omega)]
    rfl
theorem flat_filter {α β γ : Type} (h : α → Option β) (g : β → List γ) : ∀ xs : List α, (xs.filterMap h).flatMap g = xs.flatMap fun x => ((h x).map g).getD []
  | [] => rfl
  | x :: xs => by
    rw [List.filterMap_cons, List.flatMap_cons, ← flat_filter h g xs]
    cases h x <;> rfl
theorem fm_congr {α β : Type} {f g : α → Option β} : ∀ (xs : List α), (∀ x ∈ xs, f x = g x) → xs.filterMap f = xs.filterMap g
  | [], _ => rfl
  | x :: xs, h => by
    rw [List.filterMap_cons, List.filterMap_cons, h x List.mem_cons_self, fm_congr xs fun y hy => h y (List.mem_cons_of_mem _ hy)]
theorem flat_congr {α β : Type} {f g : α → List β} : ∀ (xs : List α), (∀ x ∈ xs, f x = g x) → xs.flatMap f = xs.flatMap g
  | [], _ => rfl
  | x :: xs, h => by
    rw [List.flatMap_cons, List.flatMap_cons, h x List.mem_cons_self, flat_congr xs fun y hy => h y (List.mem_cons_of_mem _ hy)]
def partsO (rows : List (List (Option Int))) (ch : List Int) : List (Option Int) := (List.range rows.length).map fun k => (rows.getD k []).getD (ch.getD k 0).toNat none
def crow (r : Row) : List (Option Int) := r.map costOf
theorem crow_get (r : Row) (i : Nat) : (crow r).getD i none = costOf (r.getD i none) := by
  unfold crow
  rw [List.getD_eq_getElem?_getD, List.getElem?_map, List.getD_eq_getElem?_getD]
  cases r[i]? <;> rfl
theorem parts_app {rows : List (List (Option Int))} {r : List (Option Int)} {ch : List Int} {l : Nat} (h : ch.length = rows.length) : partsO (rows ++ [r]) (ch ++ [(l : Int)]) = partsO rows ch ++ [r.getD l none] := by
  unfold partsO
  rw [List.length_append, List.length_cons, List.length_nil, List.range_succ, List.map_append]
  congr 1
  · apply List.map_congr_left
    intro k hk
    rw [List.mem_range] at hk
    rw [getD_app_l hk, getD_app_l (by omega)]
  · simp only [List.map_cons, List.map_nil, List.cons.injEq, and_true]
    have e1 : (rows ++ [r]).getD rows.length [] = r := by
      rw [List.getD_eq_getElem?_getD, List.getElem?_append_right (Nat.le_refl _), Nat.sub_self]
      rfl
    have e2 : (ch ++ [(l : Int)]).getD rows.length 0 = l := by
      rw [← h, List.getD_eq_getElem?_getD, List.getElem?_append_right (Nat.le_refl _), Nat.sub_self]
      rfl
    rw [e1, e2]
    rfl
def cutB (e : Bl) : List Int × Int := (e.1, e.2.1)
theorem bs_cut (n : Nat) (found : List Bl) (r : Row) (hr : r.length = n) : (bs found r).map cutB = (found.map cutB).flatMap fun x => (List.range n).filterMap fun i => ((crow r).getD i none).map fun c => (x.1 ++ [(i : Int)], x.2 + c) := by
  unfold bs
  rw [List.map_flatMap, List.flatMap_map]
  congr 1
  funext x
  rw [zip_range r none, List.filterMap_map, List.map_filterMap, hr]
  congr 1
  funext i
  simp only [Function.comp, belowOne, crow_get]
  cases r.getD i none <;> rfl
theorem below_cut (n : Nat) : ∀ (k : Nat) (rows : List Row), rows.length = k → (∀ r ∈ rows, r.length = n) → (belowC rows).map cutB = (listsF k n).filterMap fun ch => (sumO (partsO (rows.map crow) ch)).map fun s => (ch, s)
  | 0, rows, hk, _ => by
    have : rows = [] := List.eq_nil_of_length_eq_zero hk
    subst this
    rfl
  | k + 1, rows, hk, hr => by
    rcases List.eq_nil_or_concat rows with e | ⟨rows', r, e⟩
    · rw [e] at hk
      cases hk
    rw [List.concat_eq_append] at e
    subst e
    have hk' : rows'.length = k := by
      rw [List.length_append] at hk
      simpa using hk
    have e1 : belowC (rows' ++ [r]) = bs (belowC rows') r := by
      unfold belowC
      rw [List.foldl_append]
      rfl
    rw [e1, bs_cut n _ r (hr r (by simp)), below_cut n k rows' hk' (fun y hy => hr y (List.mem_append_left _ hy)), lists_succ]
    unfold longer
    rw [List.filterMap_flatMap, flat_filter]
    refine flat_congr _ fun ch hch => ?_
    have hl := ((lists_val k n ch).mp hch).1
    rw [List.filterMap_map, List.map_append, List.map_cons, List.map_nil]
    have e2 : ∀ l : Nat, partsO (rows'.map crow ++ [crow r]) (ch ++ [(l : Int)]) = partsO (rows'.map crow) ch ++ [(crow r).getD l none] := fun l => parts_app (by rw [List.length_map, hl, hk'])
    cases e3 : sumO (partsO (rows'.map crow) ch) with
    | none =>
      have e4 : ((fun ch => (sumO (partsO (rows'.map crow ++ [crow r]) ch)).map fun s => (ch, s)) ∘ fun (l : Nat) => ch ++ [(l : Int)]) = fun _ => (none : Option (List Int × Int)) := by
        funext l
        simp only [Function.comp, e2, sumO_app, e3]
        rfl
      rw [e4]
      simp
    | some s =>
      have e4 : ((fun ch => (sumO (partsO (rows'.map crow ++ [crow r]) ch)).map fun s => (ch, s)) ∘ fun (l : Nat) => ch ++ [(l : Int)]) = fun (l : Nat) => ((crow r).getD l none).map fun c => (ch ++ [(l : Int)], s + c) := by
        funext l
        simp only [Function.comp, e2, sumO_app, e3]
        cases (crow r).getD l none <;> rfl
      rw [e4]
      rfl
/-- a row of least costs is the law's -/
theorem row_eq {m : Mac} {q : Lm} (h : Same2 m q) (pr : List Int) (f : Option Int) (l : Int) (rows : List Row) (root : Bool) (hr : ∀ r ∈ rows, r.length = q.n) : crow (rowF m pr f l (belowC rows) root) = rootRow q l (rows.map crow) pr f root := by
  unfold crow rowF rootRow
  rw [List.map_map, h.n]
  apply List.map_congr_left
  intro lab hlab
  simp only [Function.comp]
  rw [cost_row]
  congr 1
  have e1 : ((belowC rows).filterMap fun e => charged (e.2.1 + pr.getD lab 0) (objB m l e.1 lab root) f) = ((belowC rows).map cutB).filterMap fun x => charged (x.2 + pr.getD lab 0) (objB m l x.1 lab root) f := by
    rw [List.filterMap_map]
    rfl
  have e2 := below_cut q.n rows.length rows rfl hr
  rw [e1, e2, List.filterMap_filterMap, List.length_map]
  refine fm_congr _ fun ch hch => ?_
  unfold rootOne
  have e3 : sumO ((List.range (rows.map (fun r : Row => r.map costOf)).length).map fun k => ((rows.map fun r : Row => r.map costOf).getD k []).getD (ch.getD k 0).toNat none) = sumO (partsO (rows.map crow) ch) := rfl
  rw [e3]
  cases sumO (partsO (rows.map crow) ch) with
  | none => rfl
  | some s =>
    simp only [Option.map_some, Option.bind_some]
    have e4 : decide ((l, ch, (lab : Int)) ∈ q.mv) = decide ((l, ch, (lab : Int)) ∈ m.mv) := by
      rw [decide_eq_decide]
      exact (h.mv _).symm
    have e5 : decide ((lab : Int) ∈ q.en) = decide ((lab : Int) ∈ m.en) := by
      rw [decide_eq_decide]
      exact (h.en _).symm
    rw [e4, e5]
    unfold charged objB
    cases decide ((l, ch, (lab : Int)) ∈ m.mv) <;> cases root <;> cases decide ((lab : Int) ∈ m.en) <;> rfl
def numZ (q : Lm) (P : List (List Int)) (f : Option Int) (rows : List (List (Option Int))) (x : Nd × Nat) : List (List (Option Int)) := rows ++ [rootRow q x.1.1 (x.1.2.map fun c => rows.getD c []) (P.getD x.2 []) f false]
theorem numF_zip (q : Lm) (ns : List Nd) (P : List (List Int)) (f : Option Int) : numF q ns P f = ns.zipIdx.foldl (numZ q P f) [] := by
  rw [zip_range ns (0, []), List.foldl_map]
  rfl
theorem getD_crow (done : List Row) (c : Nat) : (done.map crow).getD c [] = crow (done.getD c []) := by
  rw [List.getD_eq_getElem?_getD, List.getElem?_map, List.getD_eq_getElem?_getD]
  cases done[c]? <;> rfl
theorem num_take {m : Mac} {q : Lm} (h : Same2 m q) (P : List (List Int)) (f : Option Int) (t : Tr) : ∀ i, i ≤ t.size → ((nodes t).zipIdx.take i).foldl (numZ q P f) [] = (((nodes t).zipIdx.take i).foldl (doneStep m P f) []).map crow
  | 0, _ => rfl
  | i + 1, hi => by
    have ih := num_take h P f t i (by omega)
    have hI := best_all (m := m) (P := P) (f := f) (t := t) i (by omega)
    obtain ⟨nd, hnd⟩ := get_ex (xs := nodes t) (i := i) (by rw [nodes_len]; omega)
    have e : (nodes t).zipIdx[i]? = some (nd, i) := by
      rw [List.getElem?_zipIdx, hnd]
      simp
    have hch := nodes_ch hnd
    rw [List.take_add_one, e, List.foldl_append, List.foldl_append, ih]
    generalize ((nodes t).zipIdx.take i).foldl (doneStep m P f) [] = done at hI ⊢
    show done.map crow ++ [rootRow q nd.1 (nd.2.map fun c => (done.map crow).getD c []) (P.getD i []) f false] = (done ++ [rowF m (P.getD i []) f nd.1 (belowOf nd.2 done) false]).map crow
    rw [List.map_append, List.map_cons, List.map_nil, belowOf_eq, row_eq h]
    · rw [List.map_map]
      congr 3
      apply List.map_congr_left
      intro c _
      exact getD_crow done c
    · intro r hr
      obtain ⟨c, hc, rfl⟩ := List.mem_map.mp hr
      have h2 := hch.2 c hc
      rw [← h.n]
      refine hI.row _ ?_
      rw [List.getD_eq_getElem?_getD, List.getElem?_eq_getElem (by rw [hI.len]; exact h2)]
      exact List.getElem_mem _
theorem num_eq {m : Mac} {q : Lm} (h : Same2 m q) (P : List (List Int)) (f : Option Int) (t : Tr) : numF q (nodes t) P f = (doneF m P f (nodes t)).map crow := by
  have := num_take h P f t t.size (Nat.le_refl _)
  rw [List.take_of_length_le (by rw [List.length_zipIdx, nodes_len]; exact Nat.le_refl _)] at this
  rw [numF_zip, this]
  rfl
theorem numEnds_eq {m : Mac} {q : Lm} (h : Same2 m q) (P : List (List Int)) (f : Option Int) (t : Tr) (hP : P.length = t.size) : numEnds q (nodes t) P f = crow (endsF m P f (nodes t)) := by
  have hpos := size_pos t
  have hI := best_all (m := m) (P := P) (f := f) (t := t) t.size (Nat.le_refl _)
  rw [List.take_of_length_le (by rw [List.length_zipIdx, nodes_len]; exact Nat.le_refl _)] at hI
  have hI : BestI m t.size (doneF m P f (nodes t)) := hI
  unfold numEnds endsF
  rw [num_eq h, nodes_len, hP, ← getD_last (xs := nodes t), nodes_len]
  obtain ⟨nd, hnd⟩ := get_ex (xs := nodes t) (i := t.size - 1) (by rw [nodes_len]; omega)
  have e : (nodes t).getD (t.size - 1) (0, []) = nd := by
    rw [List.getD_eq_getElem?_getD, hnd]
    rfl
  have hch := nodes_ch hnd
  rw [e]
  simp only
  rw [belowOf_eq, row_eq h]
  · rw [List.map_map]
    congr 2
    funext c
    exact getD_crow _ c
  · intro r hr
    obtain ⟨c, hc, rfl⟩ := List.mem_map.mp hr
    have h2 := hch.2 c hc
    rw [← h.n]
    refine hI.row _ ?_
    rw [List.getD_eq_getElem?_getD, List.getElem?_eq_getElem (by rw [hI.len]; omega)]
    exact List.getElem_mem _
end Ob
/-! part Xh -/
namespace Ob
open PySem L2
local macro_rules | `(tactic| walk_at "wp") => `(tactic| simp only [q_wpE_c, q_wpE_slot, q_wpE_bin, q_wpE_neg, q_wpE_not, q_wpE_or, q_wpE_and, q_wpE_cmp, q_wpE_chain, q_wpE_ife, q_wpE_tup, q_wpE_lst, q_wpE_ix, q_wpE_cut, q_att, blD_eq, mvD_eq, ndD_eq, sq_pD, sq_lm, is_non, is_bl, is_int, is_lst, eq_nn, in_bl, in_lst, decide_true, am_1, am_2, am_3, ar_7, ar_2, ar_8, ar_9, ag_7, ag_2, ag_10, ag_8, ag_9, ck_n, ck_n1, cl_i, cl_i1, cl_n1, ci_t, ci_l, cn_t, cn_l, q_wpE_len, q_wpE_list, q_wpE_tuple, q_wpE_sum, q_wpE_min1, q_wpE_min2, q_wpE_int, q_wpE_all, q_wpE_sset, q_wpE_mdict, q_wpE_isi, q_wpE_pop, q_wpE_app, q_wpE_exd, q_wpE_call, q_wpE_meth, q_wpE_new, q_wpE_fz, q_wpE_bor, q_wpA_nil, q_wpA_cons, q_wpA_star, q_wpT_tv, q_wpT_tnot, q_wpT_tand, q_wpT_tor, q_wpT_noE, q_wpO_noE, q_wpO_tv, q_wpI_iSeq, q_wpI_iRan, q_wpI_iRan2, q_wpI_iEnum, q_wpI_iZip, q_wpI_iRev, e_lc, wpG, wpG.wpGs, wipeD, List.map_cons, List.map_nil, List.append_nil, List.cons_append, List.nil_append, List.replicate, List.length_cons, List.length_nil, List.length_map, Nat.reduceSub, Nat.reduceAdd, tN, enum_map,
  List.set_cons_zero, List.set_cons_succ, List.getElem?_cons_zero, List.getElem?_cons_succ, Option.some.injEq, Dt.int.injEq, Dt.bl.injEq, Dt.lst.injEq, Dt.tup.injEq, Dt.ins.injEq, Dt.adr.injEq, Cell.lst.injEq, Cell.ins.injEq, exists_eq_right, exists_eq_right', Prod.mk.injEq, exists_eq_left', exists_eq_left, exists_and_left, exists_eq', exists_eq, true_and, and_true, List.cons.injEq, and_self, and_assoc,
  bk_addi, bk_sub, bk_mul, bk_mod, bk_div, bk_pow, bk_cat, bk_rep, nk_f, nk_t, sq_lst, sq_tup, sq_pr, ls_lst, fz_lst, fz_tup, ts_non, ts_bl, ts_pr, cm_lt, cm_le, cm_gt, cm_ge, cm_eq, cm_ne, cm_eqb, cm_neb, cm_is, cm_isn, in_non, in_int, in_pr, in_o, in_oi, gt_hd, pt_hd, dl_hd,
  at_0, at_1, at_2, at_3, at_4, oD_n, oD_s, oi_n, oi_s, Option.isNone_none, Option.isNone_some, lim_0, lim_1, lim_2, lim_3, lim_4, lim_5, lim_6, lim_7, Int.natCast_nonneg, Int.ofNat_le, Bool.not_true, Bool.true_or, Bool.false_or, Bool.or_true, Bool.or_false, Bool.true_and, Bool.false_and, Bool.and_true, Bool.and_false, List.contains_cons, List.contains_nil, Nat.reduceBEq, Bool.not_false, Bool.true_eq_false, Bool.false_eq_true, false_imp_iff, true_imp_iff, reduceCtorEq, forall_const, Nat.reduceLT, Nat.reduceLeDiff, eq_self, forall_eq', forall_eq])
local macro_rules | `(tactic| walk_at "go") => `(tactic| (try dsimp only); (try walk_at "wp"); repeat (first | refine seq_i ?_ | (refine asg_i ?_; try walk_at "wp") | (refine drop_i ?_; try walk_at "wp") | (refine ret_i ?_; try walk_at "wp") | (refine forr_i ?_; try walk_at "wp") | (refine iff_i ?_; try walk_at "wp") | (refine seti_i ?_; try walk_at "wp") | (refine augi_i ?_; try walk_at "wp") | (refine seta_i ?_; try walk_at "wp") | (refine skip_i ?_; try walk_at "wp")))
/-! Plain mathematics: ways. -/
def prodC (c : Int) (x : List Int × Int) : Int := c * x.1.getD x.2.toNat 0
def stepC (l : Int) (rows : List (List Int)) (row : List Int) (x : Mv) : List Int :=
  if x.1 = l ∧ x.2.1.length = rows.length then row.set x.2.2.toNat (row.getD x.2.2.toNat 0 + (rows.zip x.2.1).foldl prodC 1) else row
def rowC (m : Mac) (l : Int) (rows : List (List Int)) : List Int := m.mv.foldl (stepC l rows) (List.replicate m.n 0)
def cdT (m : Mac) : Tr → List (List Int)
  | .n0 l => [rowC m l []]
  | .n1 l a => cdT m a ++ [rowC m l [(cdT m a).getLastD []]]
  | .n2 l a b => cdT m a ++ cdT m b ++ [rowC m l [(cdT m a).getLastD [], (cdT m b).getLastD []]]
def chC (m : Mac) : Tr → List (List Int)
  | .n0 _ => []
  | .n1 _ a => [(cdT m a).getLastD []]
  | .n2 _ a b => [(cdT m a).getLastD [], (cdT m b).getLastD []]
theorem cdT_len (m : Mac) : ∀ t : Tr, (cdT m t).length = t.size
  | .n0 _ => rfl
  | .n1 _ a => by
    simp only [cdT, List.length_append, cdT_len m a, List.length_cons, List.length_nil, Tr.size]
  | .n2 _ a b => by
    simp only [cdT, List.length_append, cdT_len m a, cdT_len m b, List.length_cons, List.length_nil, Tr.size]
theorem cdT_last (m : Mac) (t : Tr) : (cdT m t).getLastD [] = rowC m (letOf t) (chC m t) := by
  cases t with
  | n0 l => rfl
  | n1 l a => exact getLastD_app ..
  | n2 l a b => exact getLastD_app ..
theorem cntStep_eq (done : List (List Int)) (l : Int) (cs : List Nat) (row : List Int) (x : Mv) : cntStep (l, cs) done row x = stepC l (cs.map fun c => done.getD c []) row x := by
  unfold cntStep stepC
  simp only [List.length_map]
  have e : (cs.zip x.2.1).foldl (cntOne done) 1 = ((cs.map fun c => done.getD c []).zip x.2.1).foldl prodC 1 := by
    rw [List.zip_map_left, List.foldl_map]
    rfl
  rw [e]
theorem cntRow_eq (m : Mac) (done : List (List Int)) (l : Int) (cs : List Nat) : cntRow m done (l, cs) = done ++ [rowC m l (cs.map fun c => done.getD c [])] := by
  unfold cntRow rowC
  have e : cntStep (l, cs) done = stepC l (cs.map fun c => done.getD c []) := by
    funext row x
    exact cntStep_eq ..
  rw [e]
theorem cd_eq (m : Mac) : ∀ (t : Tr) (k : Nat) (done : List (List Int)), done.length = k → ((nodes t).map (shiftN k)).foldl (cntRow m) done = done ++ cdT m t
  | .n0 l, k, done, h => by
    simp only [nodes, List.map_cons, List.map_nil, List.foldl_cons, List.foldl_nil, cdT, shiftN, cntRow_eq]
  | .n1 l a, k, done, h => by
    have pa := size_pos a
    have ih := cd_eq m a k done h
    have l1 := cdT_len m a
    simp only [nodes, List.map_append, List.foldl_append, ih, List.map_cons, List.map_nil, List.foldl_cons, List.foldl_nil, cdT, shiftN, cntRow_eq]
    rw [← List.append_assoc]
    congr 5
    rw [← h, ← l1]
    have := getD_at1 (D := done) (A := cdT m a) (B := []) (d := []) (by omega)
    rw [List.append_nil] at this
    exact this
  | .n2 l a b, k, done, h => by
    have pa := size_pos a
    have pb := size_pos b
    have ih1 := cd_eq m a k done h
    have l1 := cdT_len m a
    have l2 := cdT_len m b
    have ih2 := cd_eq m b (k + a.size) (done ++ cdT m a) (by rw [List.length_append, l1, h])
    simp only [nodes, List.map_append, List.foldl_append, ih1, map_shift, ih2, List.map_cons, List.map_nil, List.foldl_cons, List.foldl_nil, cdT, shiftN, cntRow_eq]
    generalize cdT m a = A at l1
    generalize cdT m b = B at l2
    simp only [List.append_assoc]
    rw [← l1, ← l2, ← h, getD_at1 (by omega), getD_at2 (by omega)]
theorem counted_eq (m : Mac) (t : Tr) : (countedF m t).getLastD [] = rowC m (letOf t) (chC m t) := by
  have h := cd_eq m t 0 [] rfl
  rw [nodes_shift0, List.nil_append] at h
  unfold countedF
  rw [h, cdT_last]
/-! ### what a row of counts holds -/
def sumN {α : Type} (f : α → Int) (xs : List α) : Int := (xs.map f).sum
theorem sumN_nil {α : Type} (f : α → Int) : sumN f [] = 0 := rfl
theorem sumN_cons {α : Type} (f : α → Int) (x : α) (xs : List α) : sumN f (x :: xs) = f x + sumN f xs := rfl
theorem sumN_app {α : Type} (f : α → Int) (xs ys : List α) : sumN f (xs ++ ys) = sumN f xs + sumN f ys := by
  unfold sumN
  rw [List.map_append, List.sum_append]
theorem sumN_congr {α : Type} {f g : α → Int} (xs : List α) (h : ∀ x ∈ xs, f x = g x) : sumN f xs = sumN g xs := by
  induction xs with
  | nil => rfl
  | cons x xs ih => rw [sumN_cons, sumN_cons, h x List.mem_cons_self, ih fun y hy => h y (List.mem_cons_of_mem _ hy)]
theorem sumN_add {α : Type} (f g : α → Int) (xs : List α) : sumN (fun x => f x + g x) xs = sumN f xs + sumN g xs := by
  induction xs with
  | nil => rfl
  | cons x xs ih =>
    rw [sumN_cons, sumN_cons, sumN_cons, ih]
    omega
theorem sumN_zero {α : Type} (xs : List α) : sumN (fun _ => 0) xs = 0 := by
  induction xs with
  | nil => rfl
  | cons x xs ih => rw [sumN_cons, ih]; rfl
theorem sumN_mul {α : Type} (f : α → Int) (c : Int) (xs : List α) : sumN (fun x => f x * c) xs = sumN f xs * c := by
  induction xs with
  | nil => rw [sumN_nil, sumN_nil, Int.zero_mul]
  | cons x xs ih => rw [sumN_cons, sumN_cons, ih, Int.add_mul]
theorem sumN_mull {α : Type} (f : α → Int) (c : Int) (xs : List α) : sumN (fun x => c * f x) xs = c * sumN f xs := by
  induction xs with
  | nil => rw [sumN_nil, sumN_nil, Int.mul_zero]
  | cons x xs ih => rw [sumN_cons, sumN_cons, ih, Int.mul_add]
theorem sumN_swap {α β : Type} (f : α → β → Int) (xs : List α) (ys : List β) : sumN (fun x => sumN (f x) ys) xs = sumN (fun y => sumN (fun x => f x y) xs) ys := by
  induction xs with
  | nil => rw [sumN_nil, sumN_congr (g := fun _ => 0) ys (fun y _ => sumN_nil _), sumN_zero]
  | cons x xs ih =>
    rw [sumN_cons, ih, ← sumN_add]
    exact sumN_congr ys fun y _ => rfl
theorem sumN_flat {α β : Type} (f : β → Int) (g : α → List β) (xs : List α) : sumN f (xs.flatMap g) = sumN (fun x => sumN f (g x)) xs := by
  induction xs with
  | nil => rfl
  | cons x xs ih => rw [List.flatMap_cons, sumN_app, sumN_cons, ih]
theorem sumN_map {α β : Type} (f : β → Int) (g : α → β) (xs : List α) : sumN f (xs.map g) = sumN (fun x => f (g x)) xs := by
  unfold sumN
  rw [List.map_map]
  rfl
def I (p : Prop) [Decidable p] : Int := if p then 1 else 0
theorem stepC_get {l : Int} {rows : List (List Int)} : ∀ (ms : List Mv) (row : List Int) (lab : Nat), lab < row.length → (∀ x ∈ ms, 0 ≤ x.2.2 ∧ x.2.2 < (row.length : Int)) →
    (ms.foldl (stepC l rows) row).getD lab 0 = row.getD lab 0 + sumN (fun x => I (x.1 = l ∧ x.2.1.length = rows.length ∧ x.2.2 = (lab : Int)) * (rows.zip x.2.1).foldl prodC 1) ms
  | [], row, lab, h, _ => by
    rw [sumN_nil, Int.add_zero]
    rfl
  | x :: ms, row, lab, h, hm => by
    have hx := hm x List.mem_cons_self
    have hl : (stepC l rows row x).length = row.length := by
      unfold stepC
      split
      · rw [List.length_set]
      · rfl
    rw [List.foldl_cons, stepC_get ms _ lab (by rw [hl]; exact h) (fun y hy => by rw [hl]; exact hm y (List.mem_cons_of_mem _ hy)), sumN_cons]
    have e : (stepC l rows row x).getD lab 0 = row.getD lab 0 + I (x.1 = l ∧ x.2.1.length = rows.length ∧ x.2.2 = (lab : Int)) * (rows.zip x.2.1).foldl prodC 1 := by
      unfold stepC I
      by_cases h1 : x.1 = l ∧ x.2.1.length = rows.length
      · rw [if_pos h1]
        by_cases h2 : x.2.2 = (lab : Int)
        · rw [if_pos ⟨h1.1, h1.2, h2⟩, h2, Int.toNat_natCast, List.getD_eq_getElem?_getD, List.getElem?_set_self h, Int.one_mul]
          rfl
        · rw [if_neg (fun h => h2 h.2.2), List.getD_eq_getElem?_getD, List.getElem?_set_ne (by omega), ← List.getD_eq_getElem?_getD]
          omega
      · rw [if_neg h1, if_neg (fun h => h1 ⟨h.1, h.2.1⟩)]
        omega
    rw [e]
    omega
theorem rowC_get {m : Mac} (mo : m.Ok) (l : Int) (rows : List (List Int)) (lab : Nat) (h : lab < m.n) : (rowC m l rows).getD lab 0 = sumN (fun x => I (x.1 = l ∧ x.2.1.length = rows.length ∧ x.2.2 = (lab : Int)) * (rows.zip x.2.1).foldl prodC 1) m.mv := by
  unfold rowC
  rw [stepC_get m.mv _ lab (by rw [List.length_replicate]; exact h) (fun x hx => by rw [List.length_replicate]; exact mo.lab x hx)]
  have e : (List.replicate m.n (0 : Int)).getD lab 0 = 0 := by
    rw [List.getD_eq_getElem?_getD, List.getElem?_replicate, if_pos h]
    rfl
  rw [e, Int.zero_add]
/-- in a list with no doubles -/
theorem sum_once {α : Type} [DecidableEq α] : ∀ (xs : List α) (a : α), xs.Nodup → sumN (fun x => I (x = a)) xs = I (a ∈ xs)
  | [], a, _ => rfl
  | x :: xs, a, nd => by
    obtain ⟨n1, n2⟩ := List.nodup_cons.mp nd
    rw [sumN_cons, sum_once xs a n2]
    unfold I
    by_cases e : x = a
    · subst e
      rw [if_pos rfl, if_neg n1, if_pos List.mem_cons_self]
      rfl
    · rw [if_neg e, Int.zero_add]
      by_cases h : a ∈ xs
      · rw [if_pos h, if_pos (List.mem_cons_of_mem _ h)]
      · rw [if_neg h, if_neg (fun h2 => (List.mem_cons.mp h2).elim (fun h3 => e h3.symm) h)]
theorem I_and (p q : Prop) [Decidable p] [Decidable q] : I (p ∧ q) = I p * I q := by
  unfold I
  by_cases h1 : p <;> by_cases h2 : q <;> simp [h1, h2]
theorem I_iff {p q : Prop} [Decidable p] [Decidable q] (h : p ↔ q) : I p = I q := by
  unfold I
  by_cases h1 : p
  · rw [if_pos h1, if_pos (h.mp h1)]
  · rw [if_neg h1, if_neg (fun h2 => h1 (h.mpr h2))]
theorem sum_once2 {α : Type} [DecidableEq α] (xs : List α) (a : α) (nd : xs.Nodup) [Decidable (a ∈ xs)] : I (a ∈ xs) = sumN (fun x => I (x = a)) xs := by
  rw [sum_once xs a nd]
  unfold I
  by_cases h : a ∈ xs
  · rw [if_pos h, if_pos h]
  · rw [if_neg h, if_neg h]
theorem len2 : ∀ {xs : List Int}, xs.length = 2 → ∃ y w, xs = [y, w]
  | [y, w], _ => ⟨y, w, rfl⟩
theorem sum_pick {n lab : Nat} (h : lab < n) (g : Nat → Int) : sumN (fun l' : Nat => I ((l' : Int) = (lab : Int)) * g l') (List.range n) = g lab := by
  have key : ∀ k, sumN (fun l' : Nat => I ((l' : Int) = (lab : Int)) * g l') (List.range k) = if lab < k then g lab else 0 := by
    intro k
    induction k with
    | zero => rfl
    | succ k ih =>
      rw [List.range_succ, sumN_app, ih, sumN_cons, sumN_nil]
      unfold I
      by_cases e : k = lab
      · subst e
        rw [if_neg (Nat.lt_irrefl _), if_pos rfl, if_pos (Nat.lt_succ_self _)]
        omega
      · rw [if_neg (by omega : ¬ (k : Int) = (lab : Int))]
        by_cases h2 : lab < k
        · rw [if_pos h2, if_pos (by omega)]
          omega
        · rw [if_neg h2, if_neg (by omega)]
          omega
  rw [key n, if_pos h]
theorem sum_lists_succ (f : List Int → Int) (k n : Nat) : sumN f (listsF (k + 1) n) = sumN (fun xs => sumN (fun l : Nat => f (xs ++ [(l : Int)])) (List.range n)) (listsF k n) := by
  rw [lists_succ]
  unfold longer
  rw [sumN_flat]
  exact sumN_congr _ fun xs _ => sumN_map ..
theorem lists_add (a n : Nat) : ∀ b, listsF (a + b) n = (listsF a n).flatMap fun xs => (listsF b n).map (xs ++ ·)
  | 0 => by
    show listsF a n = (listsF a n).flatMap fun xs => [[]].map (xs ++ ·)
    simp
  | b + 1 => by
    rw [← Nat.add_assoc, lists_succ, lists_add a n b, lists_succ]
    unfold longer
    rw [List.flatMap_assoc]
    refine flat_congr _ fun xs _ => ?_
    rw [List.flatMap_map, List.map_flatMap]
    refine flat_congr _ fun us _ => ?_
    rw [List.map_map]
    apply List.map_congr_left
    intro l _
    simp
theorem sum_lists_add (f : List Int → Int) (a b n : Nat) : sumN f (listsF (a + b) n) = sumN (fun xs => sumN (fun us => f (xs ++ us)) (listsF b n)) (listsF a n) := by
  rw [lists_add, sumN_flat]
  exact sumN_congr _ fun xs _ => sumN_map ..
/-- labellings with no objection, the root's label given -/
def zc (m : Mac) (t : Tr) (lab : Int) : Int := sumN (fun ls => I (Ob_ m false t (fn ls) = 0) * I (fn ls (t.size - 1) = lab)) (listsF t.size m.n)
theorem one0 (b : Bool) : oneN b = 0 ↔ b = false := by cases b <;> simp [oneN]
theorem objI_f (m : Mac) (l : Int) (ch : List Int) (lab : Int) : oneN (objI m l ch lab false) = 0 ↔ (l, ch, lab) ∈ m.mv := by
  rw [one0]
  unfold objI
  simp
theorem zc_row {m : Mac} (mo : m.Ok) : ∀ (t : Tr) (lab : Nat), lab < m.n → (rowC m (letOf t) (chC m t)).getD lab 0 = zc m t lab
  | .n0 l, lab, h => by
    rw [rowC_get mo _ _ _ h]
    unfold zc
    show _ = sumN _ (listsF (0 + 1) m.n)
    rw [sum_lists_succ]
    show _ = sumN _ [[]]
    rw [sumN_cons, sumN_nil, Int.add_zero]
    have e : sumN (fun l' : Nat => I (Ob_ m false (.n0 l) (fn ([] ++ [(l' : Int)])) = 0) * I (fn ([] ++ [(l' : Int)]) ((Tr.n0 l).size - 1) = (lab : Int))) (List.range m.n) = sumN (fun l' : Nat => I ((l' : Int) = (lab : Int)) * I ((l, [], (l' : Int)) ∈ m.mv)) (List.range m.n) := by
      refine sumN_congr _ fun l' _ => ?_
      rw [Int.mul_comm]
      congr 1
      exact I_iff (objI_f m l [] l')
    rw [e, sum_pick h, sum_once2 _ _ mo.nd]
    refine sumN_congr _ fun x _ => ?_
    show I (x.1 = l ∧ x.2.1.length = 0 ∧ x.2.2 = (lab : Int)) * 1 = _
    rw [Int.mul_one]
    refine I_iff ⟨fun ⟨h1, h2, h3⟩ => Prod.ext h1 (Prod.ext (List.eq_nil_of_length_eq_zero h2) h3), fun h => by subst h; exact ⟨rfl, rfl, rfl⟩⟩
  | .n1 l a, lab, h => by
    have pa := size_pos a
    rw [rowC_get mo _ _ _ h]
    unfold zc
    show _ = sumN _ (listsF (a.size + 1) m.n)
    rw [sum_lists_succ]
    have e : ∀ xs ∈ listsF a.size m.n, sumN (fun l' : Nat => I (Ob_ m false (.n1 l a) (fn (xs ++ [(l' : Int)])) = 0) * I (fn (xs ++ [(l' : Int)]) ((Tr.n1 l a).size - 1) = (lab : Int))) (List.range m.n) = sumN (fun z => I (Ob_ m false a (fn xs) = 0) * I (z = (l, [fn xs (a.size - 1)], (lab : Int)))) m.mv := by
      intro xs hxs
      have hl := ((lists_val _ _ _).mp hxs).1
      rw [sumN_mull, ← sum_once2 _ _ mo.nd, ← I_and]
      have e2 : ∀ l' : Nat, fn (xs ++ [(l' : Int)]) a.size = (l' : Int) := fun l' => fn_last hl
      have hc : ∀ l' : Nat, ∀ i, i < a.size → fn (xs ++ [(l' : Int)]) i = fn xs i := fun l' i hi => fn_l (by rw [hl]; exact hi)
      rw [sumN_congr (g := fun l' : Nat => I ((l' : Int) = (lab : Int)) * I (Ob_ m false a (fn xs) = 0 ∧ (l, [fn xs (a.size - 1)], (l' : Int)) ∈ m.mv)) _ (fun l' _ => by
        rw [Int.mul_comm]
        congr 1
        · show I (fn (xs ++ [(l' : Int)]) a.size = (lab : Int)) = _
          rw [e2]
        · refine I_iff ?_
          show Ob_ m false a (fn (xs ++ [(l' : Int)])) + oneN (objI m l [fn (xs ++ [(l' : Int)]) (a.size - 1)] (fn (xs ++ [(l' : Int)]) a.size) false) = 0 ↔ _
          rw [Ob_congr (hc l'), hc l' _ (by omega), e2, Nat.add_eq_zero_iff, objI_f]), sum_pick h]
      try exact I_iff Iff.rfl
    rw [sumN_congr _ e, sumN_swap]
    refine sumN_congr _ fun z hz => ?_
    obtain ⟨z1, z2, z3⟩ := z
    have hch := (mo.ch _ hz).2
    simp only at hch
    show I (z1 = l ∧ z2.length = 1 ∧ z3 = (lab : Int)) * ([(cdT m a).getLastD []].zip z2).foldl prodC 1 = _
    by_cases hh : z1 = l ∧ z2.length = 1 ∧ z3 = (lab : Int)
    · obtain ⟨h1, h2, h3⟩ := hh
      obtain ⟨y, rfl⟩ := List.length_eq_one_iff.mp h2
      have hy := hch y (by simp)
      have ih := zc_row mo a y.toNat (by omega)
      rw [← cdT_last, show ((y.toNat : Nat) : Int) = y by omega] at ih
      have e3 : ([(cdT m a).getLastD []].zip [y]).foldl prodC 1 = 1 * ((cdT m a).getLastD []).getD y.toNat 0 := rfl
      rw [e3, Int.one_mul, ih]
      have e4 : I (z1 = l ∧ [y].length = 1 ∧ z3 = (lab : Int)) = 1 := if_pos ⟨h1, rfl, h3⟩
      rw [e4, Int.one_mul]
      unfold zc
      refine sumN_congr _ fun xs _ => ?_
      congr 1
      refine I_iff ⟨fun h => by rw [h1, h3, h], fun h => ?_⟩
      simp only [Prod.mk.injEq, List.cons.injEq, and_true] at h
      exact h.2.1.symm
    · have e4 : I (z1 = l ∧ z2.length = 1 ∧ z3 = (lab : Int)) = 0 := if_neg hh
      rw [e4, Int.zero_mul, sumN_congr (g := fun _ => 0) _ (fun xs _ => by
        have e5 : I ((z1, z2, z3) = (l, [fn xs (a.size - 1)], (lab : Int))) = 0 := if_neg (fun h => by
          simp only [Prod.mk.injEq] at h
          exact hh ⟨h.1, by rw [h.2.1]; rfl, h.2.2⟩)
        rw [e5, Int.mul_zero]), sumN_zero]
  | .n2 l a b, lab, h => by
    have pa := size_pos a
    have pb := size_pos b
    rw [rowC_get mo _ _ _ h]
    unfold zc
    show _ = sumN _ (listsF (a.size + b.size + 1) m.n)
    rw [sum_lists_succ, sum_lists_add]
    have e : ∀ xs ∈ listsF a.size m.n, ∀ us ∈ listsF b.size m.n, sumN (fun l' : Nat => I (Ob_ m false (.n2 l a b) (fn (xs ++ us ++ [(l' : Int)])) = 0) * I (fn (xs ++ us ++ [(l' : Int)]) ((Tr.n2 l a b).size - 1) = (lab : Int))) (List.range m.n) = sumN (fun z => I (Ob_ m false a (fn xs) = 0) * I (Ob_ m false b (fn us) = 0) * I (z = (l, [fn xs (a.size - 1), fn us (b.size - 1)], (lab : Int)))) m.mv := by
      intro xs hxs us hus
      have hl := ((lists_val _ _ _).mp hxs).1
      have hl2 := ((lists_val _ _ _).mp hus).1
      rw [sumN_mull, ← sum_once2 _ _ mo.nd, ← I_and, ← I_and]
      have e2 : ∀ l' : Nat, fn (xs ++ us ++ [(l' : Int)]) (a.size + b.size) = (l' : Int) := fun l' => fn_last (by rw [List.length_append, hl, hl2])
      have hc : ∀ l' : Nat, ∀ i, i < a.size → fn (xs ++ us ++ [(l' : Int)]) i = fn xs i := fun l' i hi => by
        rw [List.append_assoc]
        exact fn_l (by rw [hl]; exact hi)
      have hd : ∀ l' : Nat, ∀ i, i < b.size → fn (xs ++ us ++ [(l' : Int)]) (a.size + i) = fn us i := fun l' i hi => by
        rw [List.append_assoc, ← hl, fn_r]
        exact fn_l (by rw [hl2]; exact hi)
      rw [sumN_congr (g := fun l' : Nat => I ((l' : Int) = (lab : Int)) * I ((Ob_ m false a (fn xs) = 0 ∧ Ob_ m false b (fn us) = 0) ∧ (l, [fn xs (a.size - 1), fn us (b.size - 1)], (l' : Int)) ∈ m.mv)) _ (fun l' _ => by
        rw [Int.mul_comm]
        congr 1
        · show I (fn (xs ++ us ++ [(l' : Int)]) (a.size + b.size) = (lab : Int)) = _
          rw [e2]
        · refine I_iff ?_
          show Ob_ m false a (fn (xs ++ us ++ [(l' : Int)])) + Ob_ m false b (fun i => fn (xs ++ us ++ [(l' : Int)]) (a.size + i)) + oneN (objI m l [fn (xs ++ us ++ [(l' : Int)]) (a.size - 1), fn (xs ++ us ++ [(l' : Int)]) (a.size + (b.size - 1))] (fn (xs ++ us ++ [(l' : Int)]) (a.size + b.size)) false) = 0 ↔ _
          rw [Ob_congr (hc l'), Ob_congr (hd l'), hc l' _ (by omega), hd l' _ (by omega), e2, Nat.add_eq_zero_iff, Nat.add_eq_zero_iff, objI_f]), sum_pick h]
      try exact I_iff Iff.rfl
    rw [sumN_congr _ (fun xs hxs => sumN_congr _ (e xs hxs)), sumN_congr _ (fun xs _ => sumN_swap _ _ _), sumN_swap]
    refine sumN_congr _ fun z hz => ?_
    obtain ⟨z1, z2, z3⟩ := z
    have hch := (mo.ch _ hz).2
    simp only at hch
    show I (z1 = l ∧ z2.length = 2 ∧ z3 = (lab : Int)) * ([(cdT m a).getLastD [], (cdT m b).getLastD []].zip z2).foldl prodC 1 = _
    by_cases hh : z1 = l ∧ z2.length = 2 ∧ z3 = (lab : Int)
    · obtain ⟨h1, h2, h3⟩ := hh
      obtain ⟨y, w, rfl⟩ := len2 h2
      have hy := hch y (by simp)
      have hw := hch w (by simp)
      have ih := zc_row mo a y.toNat (by omega)
      have ih2 := zc_row mo b w.toNat (by omega)
      rw [← cdT_last, show ((y.toNat : Nat) : Int) = y by omega] at ih
      rw [← cdT_last, show ((w.toNat : Nat) : Int) = w by omega] at ih2
      have e3 : ([(cdT m a).getLastD [], (cdT m b).getLastD []].zip [y, w]).foldl prodC 1 = 1 * ((cdT m a).getLastD []).getD y.toNat 0 * ((cdT m b).getLastD []).getD w.toNat 0 := rfl
      rw [e3, Int.one_mul, ih, ih2]
      have e4 : I (z1 = l ∧ [y, w].length = 2 ∧ z3 = (lab : Int)) = 1 := if_pos ⟨h1, rfl, h3⟩
      rw [e4, Int.one_mul]
      unfold zc
      rw [← sumN_mul]
      refine sumN_congr _ fun xs _ => ?_
      rw [← sumN_mull]
      refine sumN_congr _ fun us _ => ?_
      have e5 : I ((z1, [y, w], z3) = (l, [fn xs (a.size - 1), fn us (b.size - 1)], (lab : Int))) = I (fn xs (a.size - 1) = y) * I (fn us (b.size - 1) = w) := by
        rw [← I_and]
        refine I_iff ⟨fun h => ?_, fun h => by rw [h1, h3, h.1, h.2]⟩
        simp only [Prod.mk.injEq, List.cons.injEq, and_true] at h
        exact ⟨h.2.1.1.symm, h.2.1.2.symm⟩
      rw [e5]
      generalize I (Ob_ m false a (fn xs) = 0) = A
      generalize I (Ob_ m false b (fn us) = 0) = B
      generalize I (fn xs (a.size - 1) = y) = C
      generalize I (fn us (b.size - 1) = w) = D
      rw [Int.mul_assoc, Int.mul_assoc, ← Int.mul_assoc B C D, Int.mul_comm B C, Int.mul_assoc]
    · have e4 : I (z1 = l ∧ z2.length = 2 ∧ z3 = (lab : Int)) = 0 := if_neg hh
      rw [e4, Int.zero_mul, sumN_congr (g := fun _ => 0) _ (fun xs _ => by
        rw [sumN_congr (g := fun _ => 0) _ (fun us _ => by
          have e5 : I ((z1, z2, z3) = (l, [fn xs (a.size - 1), fn us (b.size - 1)], (lab : Int))) = 0 := if_neg (fun h => by
            simp only [Prod.mk.injEq] at h
            exact hh ⟨h.1, by rw [h.2.1]; rfl, h.2.2⟩)
          rw [e5, Int.mul_zero]), sumN_zero]), sumN_zero]
end Ob
/-! part Xi -/
namespace Ob
open PySem L2
local macro_rules | `(tactic| walk_at "wp") => `(tactic| simp only [q_wpE_c, q_wpE_slot, q_wpE_bin, q_wpE_neg, q_wpE_not, q_wpE_or, q_wpE_and, q_wpE_cmp, q_wpE_chain, q_wpE_ife, q_wpE_tup, q_wpE_lst, q_wpE_ix, q_wpE_cut, q_att, blD_eq, mvD_eq, ndD_eq, sq_pD, sq_lm, is_non, is_bl, is_int, is_lst, eq_nn, in_bl, in_lst, decide_true, am_1, am_2, am_3, ar_7, ar_2, ar_8, ar_9, ag_7, ag_2, ag_10, ag_8, ag_9, ck_n, ck_n1, cl_i, cl_i1, cl_n1, ci_t, ci_l, cn_t, cn_l, q_wpE_len, q_wpE_list, q_wpE_tuple, q_wpE_sum, q_wpE_min1, q_wpE_min2, q_wpE_int, q_wpE_all, q_wpE_sset, q_wpE_mdict, q_wpE_isi, q_wpE_pop, q_wpE_app, q_wpE_exd, q_wpE_call, q_wpE_meth, q_wpE_new, q_wpE_fz, q_wpE_bor, q_wpA_nil, q_wpA_cons, q_wpA_star, q_wpT_tv, q_wpT_tnot, q_wpT_tand, q_wpT_tor, q_wpT_noE, q_wpO_noE, q_wpO_tv, q_wpI_iSeq, q_wpI_iRan, q_wpI_iRan2, q_wpI_iEnum, q_wpI_iZip, q_wpI_iRev, e_lc, wpG, wpG.wpGs, wipeD, List.map_cons, List.map_nil, List.append_nil, List.cons_append, List.nil_append, List.replicate, List.length_cons, List.length_nil, List.length_map, Nat.reduceSub, Nat.reduceAdd, tN, enum_map,
  List.set_cons_zero, List.set_cons_succ, List.getElem?_cons_zero, List.getElem?_cons_succ, Option.some.injEq, Dt.int.injEq, Dt.bl.injEq, Dt.lst.injEq, Dt.tup.injEq, Dt.ins.injEq, Dt.adr.injEq, Cell.lst.injEq, Cell.ins.injEq, exists_eq_right, exists_eq_right', Prod.mk.injEq, exists_eq_left', exists_eq_left, exists_and_left, exists_eq', exists_eq, true_and, and_true, List.cons.injEq, and_self, and_assoc,
  bk_addi, bk_sub, bk_mul, bk_mod, bk_div, bk_pow, bk_cat, bk_rep, nk_f, nk_t, sq_lst, sq_tup, sq_pr, ls_lst, fz_lst, fz_tup, ts_non, ts_bl, ts_pr, cm_lt, cm_le, cm_gt, cm_ge, cm_eq, cm_ne, cm_eqb, cm_neb, cm_is, cm_isn, in_non, in_int, in_pr, in_o, in_oi, gt_hd, pt_hd, dl_hd,
  at_0, at_1, at_2, at_3, at_4, oD_n, oD_s, oi_n, oi_s, Option.isNone_none, Option.isNone_some, lim_0, lim_1, lim_2, lim_3, lim_4, lim_5, lim_6, lim_7, Int.natCast_nonneg, Int.ofNat_le, Bool.not_true, Bool.true_or, Bool.false_or, Bool.or_true, Bool.or_false, Bool.true_and, Bool.false_and, Bool.and_true, Bool.and_false, List.contains_cons, List.contains_nil, Nat.reduceBEq, Bool.not_false, Bool.true_eq_false, Bool.false_eq_true, false_imp_iff, true_imp_iff, reduceCtorEq, forall_const, Nat.reduceLT, Nat.reduceLeDiff, eq_self, forall_eq', forall_eq])
local macro_rules | `(tactic| walk_at "go") => `(tactic| (try dsimp only); (try walk_at "wp"); repeat (first | refine seq_i ?_ | (refine asg_i ?_; try walk_at "wp") | (refine drop_i ?_; try walk_at "wp") | (refine ret_i ?_; try walk_at "wp") | (refine forr_i ?_; try walk_at "wp") | (refine iff_i ?_; try walk_at "wp") | (refine seti_i ?_; try walk_at "wp") | (refine augi_i ?_; try walk_at "wp") | (refine seta_i ?_; try walk_at "wp") | (refine skip_i ?_; try walk_at "wp")))
/-! Plain mathematics: the tree's answers agree. -/
theorem filter_sumN {α : Type} (p : α → Bool) (f : α → Int) : ∀ xs : List α, ((xs.filter p).map f).sum = sumN (fun x => I (p x = true) * f x) xs
  | [] => rfl
  | x :: xs => by
    rw [sumN_cons, ← filter_sumN p f xs, List.filter_cons]
    unfold I
    cases p x
    · simp
    · simp
theorem filter_lenI {α : Type} (p : α → Bool) : ∀ xs : List α, ((xs.filter p).length : Int) = sumN (fun x => I (p x = true)) xs
  | [] => rfl
  | x :: xs => by
    rw [sumN_cons, ← filter_lenI p xs, List.filter_cons]
    unfold I
    cases p x
    · simp
    · simp
      omega
theorem rowC_len (m : Mac) (l : Int) (rows : List (List Int)) : (rowC m l rows).length = m.n := by
  unfold rowC
  have h : ∀ (ms : List Mv) (row : List Int), (ms.foldl (stepC l rows) row).length = row.length := by
    intro ms
    induction ms with
    | nil => exact fun _ => rfl
    | cons x ms ih =>
      intro row
      rw [List.foldl_cons, ih]
      unfold stepC
      split
      · rw [List.length_set]
      · rfl
  rw [h, List.length_replicate]
theorem Ob_true (m : Mac) (t : Tr) (lb : Nat → Int) : Ob_ m true t lb = 0 ↔ Ob_ m false t lb = 0 ∧ lb (t.size - 1) ∈ m.en := by
  obtain ⟨x, k, h1, h2, _, _⟩ := Ob_root m t lb
  rw [h1, h2, Nat.add_eq_zero_iff, Nat.add_eq_zero_iff, one0, one0]
  unfold objI
  simp
  constructor
  · rintro ⟨a, b, c⟩
    exact ⟨⟨a, b⟩, c⟩
  · rintro ⟨⟨a, b⟩, c⟩
    exact ⟨a, b, c⟩
theorem ways_eq {m : Mac} {q : Lm} (h : Same2 m q) (mo : m.Ok) (t : Tr) : waysF m t = (((listsF (nodes t).length q.n).filter fun ls => decide ((objF q (nodes t) ls).length = 0)).length : Int) := by
  have hpos := size_pos t
  unfold waysF
  rw [counted_eq, zip_range _ 0, List.filter_map, List.map_map, rowC_len, filter_lenI, nodes_len]
  have e1 : (List.map ((fun x : Int × Nat => x.1) ∘ fun i => ((rowC m (letOf t) (chC m t)).getD i 0, i)) ((List.range m.n).filter ((fun x : Int × Nat => decide ((x.2 : Int) ∈ m.en)) ∘ fun i => ((rowC m (letOf t) (chC m t)).getD i 0, i)))).sum = sumN (fun i : Nat => I (decide ((i : Int) ∈ m.en) = true) * (rowC m (letOf t) (chC m t)).getD i 0) (List.range m.n) := filter_sumN (fun i : Nat => decide ((i : Int) ∈ m.en)) (fun i => (rowC m (letOf t) (chC m t)).getD i 0) (List.range m.n)
  rw [e1, ← h.n]
  have e2 : sumN (fun i : Nat => I (decide ((i : Int) ∈ m.en) = true) * (rowC m (letOf t) (chC m t)).getD i 0) (List.range m.n) = sumN (fun i : Nat => sumN (fun ls => I ((i : Int) = fn ls (t.size - 1)) * (I (Ob_ m false t (fn ls) = 0) * I (decide ((i : Int) ∈ m.en) = true))) (listsF t.size m.n)) (List.range m.n) := by
    refine sumN_congr _ fun i hi => ?_
    rw [zc_row mo t i (List.mem_range.mp hi)]
    unfold zc
    rw [← sumN_mull]
    refine sumN_congr _ fun ls _ => ?_
    have e3 : I (fn ls (t.size - 1) = (i : Int)) = I ((i : Int) = fn ls (t.size - 1)) := I_iff eq_comm
    rw [e3]
    generalize I ((i : Int) = fn ls (t.size - 1)) = A
    generalize I (Ob_ m false t (fn ls) = 0) = B
    generalize I (decide ((i : Int) ∈ m.en) = true) = C
    rw [Int.mul_comm C (B * A), Int.mul_comm B A, Int.mul_assoc]
  rw [e2, sumN_swap]
  refine sumN_congr _ fun ls hls => ?_
  have v := (lists_val _ _ _).mp hls
  have hm := v.2 _ (fn_mem (xs := ls) (i := t.size - 1) (by rw [v.1]; omega))
  have e4 : fn ls (t.size - 1) = (((fn ls (t.size - 1)).toNat : Nat) : Int) := by omega
  have e5 := sum_pick (n := m.n) (lab := (fn ls (t.size - 1)).toNat) (by omega) (fun i : Nat => I (Ob_ m false t (fn ls) = 0) * I (decide ((i : Int) ∈ m.en) = true))
  rw [← e4] at e5
  rw [e5, ← I_and]
  refine I_iff ?_
  rw [decide_eq_true_iff, decide_eq_true_iff, obj_len h, Ob_true]
theorem an_eq {m : Mac} {q : Lm} (h : Same2 m q) (t : Tr) (P : List (List Int)) (f : Option Int) (hP : P.length = t.size) (cs : List (Option Int)) (hc : (listsF t.size q.n).map (fun ls => costF P f ls (objF q (nodes t) ls).length) = cs) :
    fAn (bestF m t P f) = ⟨costOf (bestL (listsF t.size q.n) cs), labOf (bestL (listsF t.size q.n) cs), numF q (nodes t) P f, numEnds q (nodes t) P f⟩ := by
  have hb := tree_best h t P f
  rw [hc] at hb
  rw [num_eq h, numEnds_eq h P f t hP, ← hb]
  rfl
theorem whole_zero (n k : Nat) (ls : List Int) : wholeF (zerosF n k) ls = 0 := by
  unfold wholeF
  have e : (List.range ls.length).map (fun j => ((zerosF n k).getD j []).getD (ls.getD j 0).toNat 0) = (List.range ls.length).map fun _ => (0 : Int) := by
    apply List.map_congr_left
    intro j _
    unfold zerosF
    rw [List.getD_eq_getElem?_getD, List.getD_eq_getElem?_getD, List.getElem?_replicate]
    by_cases hj : j < k
    · rw [if_pos hj]
      simp only [Option.getD_some, List.getElem?_replicate]
      split <;> rfl
    · rw [if_neg hj]
      rfl
  rw [e]
  exact sumN_zero _
theorem whole_far {n : Nat} {ls old : List Int} (v : Val n old.length ls) : wholeF (changeP n old) ls = (farF ls old : Int) := by
  unfold wholeF farF
  rw [filter_lenI]
  unfold sumN
  congr 1
  apply List.map_congr_left
  intro j hj
  rw [List.mem_range] at hj
  have h1 := v.2 _ (fn_mem (xs := ls) hj)
  have e1 : (changeP n old).getD j [] = (List.range n).map fun (lab : Nat) => if (lab : Int) = old.getD j 0 then (0 : Int) else 1 := by
    unfold changeP
    rw [List.getD_eq_getElem?_getD, List.getElem?_map, List.getD_eq_getElem?_getD, List.getElem?_eq_getElem (by rw [← v.1]; exact hj)]
    rfl
  have e2 : ls.getD j 0 = fn ls j := rfl
  rw [e1, List.getD_eq_getElem?_getD, List.getElem?_map, e2, List.getElem?_range (by omega)]
  simp only [Option.map_some, Option.getD_some]
  rw [show (((fn ls j).toNat : Nat) : Int) = fn ls j by omega]
  unfold I
  by_cases h : fn ls j = old.getD j 0
  · rw [if_pos h, if_neg (fun hh => by rw [decide_eq_true (show ls.getD j 0 = old.getD j 0 from h)] at hh; cases hh)]
  · rw [if_neg h, if_pos (by rw [decide_eq_false (show ¬ ls.getD j 0 = old.getD j 0 from h)]; rfl)]
theorem tree_math (m : Mac) (q : Lm) (t : Tr) (P : List (List Int)) (f : Option Int) (old : List Int) (h : Same2 m q) (qo : q.Ok) (mo : m.Ok) (hP : P.length = t.size) (ho : old.length = t.size) : toldT m t P f old = dueT q t P f old := by
  have hnl := nodes_len t
  unfold toldT dueT
  simp only
  rw [ways_eq h mo]
  have e1 := an_eq h t P f hP _ rfl
  have e2 : fAn (fewestF m t) = _ := an_eq h t ((nodes t).map fun _ => List.replicate m.n 0) (some 1) (by rw [List.length_map, hnl]) ((listsF t.size q.n).map fun ls => some ((objF q (nodes t) ls).length : Int)) (by
    apply List.map_congr_left
    intro ls _
    rw [List.map_const', h.n]
    have := whole_zero q.n (nodes t).length ls
    unfold zerosF at this
    unfold costF
    rw [this]
    by_cases h0 : 0 < (objF q (nodes t) ls).length
    · rw [if_pos h0]
      simp
    · rw [if_neg h0, show (objF q (nodes t) ls).length = 0 by omega]
      rfl)
  have e3 : fAn (afterF m t old) = _ := an_eq h t (changeP m.n old) none (by unfold changeP; rw [List.length_map]; exact ho) ((listsF t.size q.n).map fun ls => if 0 < (objF q (nodes t) ls).length then (none : Option Int) else some (farF ls old : Int)) (by
    apply List.map_congr_left
    intro ls hls
    have v := (lists_val _ _ _).mp hls
    rw [← ho] at v
    unfold costF
    rw [h.n, whole_far v]
    rfl)
  rw [e1, e2, e3, hnl, List.map_const', h.n]
  unfold zerosF
  rw [hnl]
end Ob
/-! part Xj -/
namespace Ob
open PySem L2
local macro_rules | `(tactic| walk_at "wp") => `(tactic| simp only [q_wpE_c, q_wpE_slot, q_wpE_bin, q_wpE_neg, q_wpE_not, q_wpE_or, q_wpE_and, q_wpE_cmp, q_wpE_chain, q_wpE_ife, q_wpE_tup, q_wpE_lst, q_wpE_ix, q_wpE_cut, q_att, blD_eq, mvD_eq, ndD_eq, sq_pD, sq_lm, is_non, is_bl, is_int, is_lst, eq_nn, in_bl, in_lst, decide_true, am_1, am_2, am_3, ar_7, ar_2, ar_8, ar_9, ag_7, ag_2, ag_10, ag_8, ag_9, ck_n, ck_n1, cl_i, cl_i1, cl_n1, ci_t, ci_l, cn_t, cn_l, q_wpE_len, q_wpE_list, q_wpE_tuple, q_wpE_sum, q_wpE_min1, q_wpE_min2, q_wpE_int, q_wpE_all, q_wpE_sset, q_wpE_mdict, q_wpE_isi, q_wpE_pop, q_wpE_app, q_wpE_exd, q_wpE_call, q_wpE_meth, q_wpE_new, q_wpE_fz, q_wpE_bor, q_wpA_nil, q_wpA_cons, q_wpA_star, q_wpT_tv, q_wpT_tnot, q_wpT_tand, q_wpT_tor, q_wpT_noE, q_wpO_noE, q_wpO_tv, q_wpI_iSeq, q_wpI_iRan, q_wpI_iRan2, q_wpI_iEnum, q_wpI_iZip, q_wpI_iRev, e_lc, wpG, wpG.wpGs, wipeD, List.map_cons, List.map_nil, List.append_nil, List.cons_append, List.nil_append, List.replicate, List.length_cons, List.length_nil, List.length_map, Nat.reduceSub, Nat.reduceAdd, tN, enum_map,
  List.set_cons_zero, List.set_cons_succ, List.getElem?_cons_zero, List.getElem?_cons_succ, Option.some.injEq, Dt.int.injEq, Dt.bl.injEq, Dt.lst.injEq, Dt.tup.injEq, Dt.ins.injEq, Dt.adr.injEq, Cell.lst.injEq, Cell.ins.injEq, exists_eq_right, exists_eq_right', Prod.mk.injEq, exists_eq_left', exists_eq_left, exists_and_left, exists_eq', exists_eq, true_and, and_true, List.cons.injEq, and_self, and_assoc,
  bk_addi, bk_sub, bk_mul, bk_mod, bk_div, bk_pow, bk_cat, bk_rep, nk_f, nk_t, sq_lst, sq_tup, sq_pr, ls_lst, fz_lst, fz_tup, ts_non, ts_bl, ts_pr, cm_lt, cm_le, cm_gt, cm_ge, cm_eq, cm_ne, cm_eqb, cm_neb, cm_is, cm_isn, in_non, in_int, in_pr, in_o, in_oi, gt_hd, pt_hd, dl_hd,
  at_0, at_1, at_2, at_3, at_4, oD_n, oD_s, oi_n, oi_s, Option.isNone_none, Option.isNone_some, lim_0, lim_1, lim_2, lim_3, lim_4, lim_5, lim_6, lim_7, Int.natCast_nonneg, Int.ofNat_le, Bool.not_true, Bool.true_or, Bool.false_or, Bool.or_true, Bool.or_false, Bool.true_and, Bool.false_and, Bool.and_true, Bool.and_false, List.contains_cons, List.contains_nil, Nat.reduceBEq, Bool.not_false, Bool.true_eq_false, Bool.false_eq_true, false_imp_iff, true_imp_iff, reduceCtorEq, forall_const, Nat.reduceLT, Nat.reduceLeDiff, eq_self, forall_eq', forall_eq])
local macro_rules | `(tactic| walk_at "go") => `(tactic| (try dsimp only); (try walk_at "wp"); repeat (first | refine seq_i ?_ | (refine asg_i ?_; try walk_at "wp") | (refine drop_i ?_; try walk_at "wp") | (refine ret_i ?_; try walk_at "wp") | (refine forr_i ?_; try walk_at "wp") | (refine iff_i ?_; try walk_at "wp") | (refine seti_i ?_; try walk_at "wp") | (refine augi_i ?_; try walk_at "wp") | (refine seta_i ?_; try walk_at "wp") | (refine skip_i ?_; try walk_at "wp")))
/-! Plain mathematics: rings. -/
section
variable (m : Mac) (ring : List Int) (P : List (List Int)) (f : Option Int)
def badR (at_ : Nat) (x lab : Int) : Bool := !decide ((ring.getD at_ 0, [x], lab) ∈ m.mv)
def priceR (at_ lab : Nat) : Int := (P.getD at_ []).getD lab 0
def gR (at_ lab : Nat) (o : Option Pr × Nat) : Option Pr := o.1.bind fun q => (charged (q.1 + priceR P at_ lab) (badR m ring at_ o.2 lab) f).map fun c => (c, q.2 ++ [(lab : Int)])
theorem ringStep_eq (at_ lab : Nat) (b : Option Pr) (o : Option Pr × Nat) : ringStep m ring P f at_ lab b o = better b (gR m ring P f at_ lab o) := by
  unfold ringStep gR
  cases o.1 with
  | none => exact (better_none b).symm
  | some q =>
    show (match charged (q.1 + priceR P at_ lab) (badR m ring at_ o.2 lab) f with
      | none => b
      | some c => better b (some (c, q.2 ++ [(lab : Int)]))) = better b ((charged (q.1 + priceR P at_ lab) (badR m ring at_ o.2 lab) f).map fun c => (c, q.2 ++ [(lab : Int)]))
    cases charged (q.1 + priceR P at_ lab) (badR m ring at_ o.2 lab) f with
    | none => exact (better_none b).symm
    | some c => rfl
def gC (first : Nat) (o : Option Pr × Nat) : Option Pr := o.1.bind fun q => (charged (q.1 + priceR P 0 first) (badR m ring 0 o.2 first) f).map fun c => (c, q.2)
theorem closeStep_eq (first : Nat) (b : Option Pr) (o : Option Pr × Nat) : closeStep m ring P f first b o = better b (gC m ring P f first o) := by
  unfold closeStep gC
  cases o.1 with
  | none => exact (better_none b).symm
  | some q =>
    show (match charged (q.1 + priceR P 0 first) (badR m ring 0 o.2 first) f with
      | none => b
      | some c => better b (some (c, q.2))) = better b ((charged (q.1 + priceR P 0 first) (badR m ring 0 o.2 first) f).map fun c => (c, q.2))
    cases charged (q.1 + priceR P 0 first) (badR m ring 0 o.2 first) f with
    | none => exact (better_none b).symm
    | some c => rfl
def RW (first : Nat) : Nat → Row
  | 0 => ringRow0 m.n first
  | i + 1 => ringRow m ring P f (i + 1) (RW first i)
theorem rows_eq (first : Nat) : ∀ k, (List.range k).foldl (fun rows i => rows ++ [ringRow m ring P f (i + 1) (rows.getLastD [])]) [ringRow0 m.n first] = (List.range (k + 1)).map (RW m ring P f first)
  | 0 => rfl
  | k + 1 => by
    rw [List.range_succ, List.foldl_append, rows_eq first k, List.range_succ (n := k + 1), List.map_append]
    simp only [List.foldl_cons, List.foldl_nil, List.map_cons, List.map_nil]
    congr 3
    rw [List.range_succ, List.map_append]
    exact getLastD_app ..
theorem ringRows_eq (first : Nat) (h : 1 ≤ ring.length) : ringRows m ring P f first = (List.range ring.length).map (RW m ring P f first) := by
  unfold ringRows
  rw [rows_eq, show ring.length - 1 + 1 = ring.length by omega]
theorem ringRows_last (first : Nat) (h : 1 ≤ ring.length) : (ringRows m ring P f first).getLastD [] = RW m ring P f first (ring.length - 1) := by
  unfold ringRows
  rw [rows_eq, List.range_succ, List.map_append]
  exact getLastD_app ..
theorem RW_len (first : Nat) : ∀ i, (RW m ring P f first i).length = m.n
  | 0 => by
    show (ringRow0 m.n first).length = m.n
    unfold ringRow0
    rw [List.length_map, List.length_range]
  | i + 1 => by
    show (ringRow m ring P f (i + 1) _).length = m.n
    unfold ringRow
    rw [List.length_map, List.length_range]
theorem ringRow_get {at_ lab : Nat} {before : Row} (h : lab < m.n) (hb : before.length = m.n) : (ringRow m ring P f at_ before).getD lab none = (List.range m.n).foldl (fun b i => better b (gR m ring P f at_ lab (before.getD i none, i))) none := by
  unfold ringRow
  rw [List.getD_eq_getElem?_getD, List.getElem?_map, List.getElem?_range h]
  simp only [Option.map_some, Option.getD_some]
  have e : ringStep m ring P f at_ lab = fun b o => better b (gR m ring P f at_ lab o) := by
    funext b o
    exact ringStep_eq ..
  rw [e, zip_range before none, List.foldl_map, hb]
theorem ringRow0_get {n first lab : Nat} (h : lab < n) : (ringRow0 n first).getD lab none = if lab = first then some (0, [(first : Int)]) else none := by
  unfold ringRow0
  rw [List.getD_eq_getElem?_getD, List.getElem?_map, List.getElem?_range h]
  simp only [Option.map_some, Option.getD_some]
  by_cases e : lab = first
  · rw [if_pos e, if_pos (by omega)]
  · rw [if_neg e, if_neg (by omega)]
def CsR (first : Nat) : Nat → Nat → Pr → Prop
  | 0, lab, p => lab = first ∧ p = (0, [(first : Int)])
  | i + 1, lab, p => ∃ (x : Nat) (r : Pr), x < m.n ∧ CsR first i x r ∧ charged (r.1 + priceR P (i + 1) lab) (badR m ring (i + 1) x lab) f = some p.1 ∧ p.2 = r.2 ++ [(lab : Int)]
theorem csR_len (first : Nat) : ∀ (i lab : Nat) (p : Pr), CsR m ring P f first i lab p → p.2.length = i + 1
  | 0, lab, p, h => by
    rw [h.2]
    rfl
  | i + 1, lab, p, ⟨x, r, _, h1, _, h2⟩ => by
    rw [h2, List.length_append, csR_len first i x r h1]
    rfl
theorem gR_some {at_ lab : Nat} {o : Option Pr} {x : Nat} {p : Pr} : gR m ring P f at_ lab (o, x) = some p ↔ ∃ q, o = some q ∧ charged (q.1 + priceR P at_ lab) (badR m ring at_ x lab) f = some p.1 ∧ p.2 = q.2 ++ [(lab : Int)] := by
  unfold gR
  cases o with
  | none => simp
  | some q =>
    simp only [Option.bind_some, Option.map_eq_some_iff, Option.some.injEq, exists_eq_left']
    constructor
    · rintro ⟨c, h1, rfl⟩
      exact ⟨h1, rfl⟩
    · rintro ⟨h1, h2⟩
      exact ⟨p.1, h1, Prod.ext rfl h2.symm⟩
theorem RW_min (first : Nat) : ∀ (i lab : Nat), lab < m.n → IsMin (CsR m ring P f first i lab) ((RW m ring P f first i).getD lab none)
  | 0, lab, h => by
    show IsMin _ ((ringRow0 m.n first).getD lab none)
    rw [ringRow0_get h]
    by_cases e : lab = first
    · rw [if_pos e]
      refine ⟨⟨e, rfl⟩, fun q hq => ?_⟩
      rw [hq.2]
      exact pr_irrefl _
    · rw [if_neg e]
      exact fun p hp => e hp.1
  | i + 1, lab, h => by
    show IsMin _ ((ringRow m ring P f (i + 1) (RW m ring P f first i)).getD lab none)
    rw [ringRow_get m ring P f h (RW_len ..)]
    refine (IsMin.fold0 (List.range m.n) fun x _ => IsMin.one (gR m ring P f (i + 1) lab ((RW m ring P f first i).getD x none, x))).grow ?_ ?_
    · rintro p ⟨x, hx, hp⟩
      rw [List.mem_range] at hx
      obtain ⟨q, h1, h2, h3⟩ := (gR_some ..).mp hp
      have ih := RW_min first i x hx
      rw [h1] at ih
      exact ⟨x, q, hx, ih.1, h2, h3⟩
    · rintro p ⟨x, r, hx, hr, h2, h3⟩
      obtain ⟨q, hq, hqs, hle⟩ := (RW_min first i x hx).some hr
      obtain ⟨e2, he, hc⟩ := (charged_ex _ _ _ _).mp h2
      refine ⟨(q.1 + priceR P (i + 1) lab + e2, q.2 ++ [(lab : Int)]), ⟨x, List.mem_range.mpr hx, (gR_some ..).mpr ⟨q, hq, (charged_ex _ _ _ _).mpr ⟨e2, he, rfl⟩, rfl⟩⟩, ?_⟩
      have key := pr_app (a := q) (a' := r) (b := (0, [])) (b' := (0, [])) (k := priceR P (i + 1) lab + e2) (l := [(lab : Int)]) (by rw [csR_len m ring P f first _ _ _ hqs, csR_len m ring P f first _ _ _ hr]) rfl hle (pr_irrefl _)
      have e3 : p = (r.1 + 0 + (priceR P (i + 1) lab + e2), r.2 ++ ([] ++ [(lab : Int)])) := Prod.ext (by rw [hc]; simp only; omega) h3
      have e4 : (q.1 + priceR P (i + 1) lab + e2, q.2 ++ [(lab : Int)]) = (q.1 + 0 + (priceR P (i + 1) lab + e2), q.2 ++ ([] ++ [(lab : Int)])) := Prod.ext (by simp only; omega) rfl
      rw [e3, e4]
      exact key
def CsC (first : Nat) (p : Pr) : Prop := ∃ (x : Nat) (r : Pr), x < m.n ∧ CsR m ring P f first (ring.length - 1) x r ∧ charged (r.1 + priceR P 0 first) (badR m ring 0 x first) f = some p.1 ∧ p.2 = r.2
theorem gC_some {first : Nat} {o : Option Pr} {x : Nat} {p : Pr} : gC m ring P f first (o, x) = some p ↔ ∃ q, o = some q ∧ charged (q.1 + priceR P 0 first) (badR m ring 0 x first) f = some p.1 ∧ p.2 = q.2 := by
  unfold gC
  cases o with
  | none => simp
  | some q =>
    simp only [Option.bind_some, Option.map_eq_some_iff, Option.some.injEq, exists_eq_left']
    constructor
    · rintro ⟨c, h1, rfl⟩
      exact ⟨h1, rfl⟩
    · rintro ⟨h1, h2⟩
      exact ⟨p.1, h1, Prod.ext rfl h2.symm⟩
theorem closed_min (first : Nat) : IsMin (CsC m ring P f first) (closedF m ring P f first (RW m ring P f first (ring.length - 1))) := by
  unfold closedF
  have e : closeStep m ring P f first = fun b o => better b (gC m ring P f first o) := by
    funext b o
    exact closeStep_eq ..
  rw [e, zip_range _ none, List.foldl_map, RW_len]
  refine (IsMin.fold0 (List.range m.n) fun x _ => IsMin.one (gC m ring P f first ((RW m ring P f first (ring.length - 1)).getD x none, x))).grow ?_ ?_
  · rintro p ⟨x, hx, hp⟩
    rw [List.mem_range] at hx
    obtain ⟨q, h1, h2, h3⟩ := (gC_some ..).mp hp
    have ih := RW_min m ring P f first (ring.length - 1) x hx
    rw [h1] at ih
    exact ⟨x, q, hx, ih.1, h2, h3⟩
  · rintro p ⟨x, r, hx, hr, h2, h3⟩
    obtain ⟨q, hq, hqs, hle⟩ := (RW_min m ring P f first (ring.length - 1) x hx).some hr
    obtain ⟨e2, he, hc⟩ := (charged_ex _ _ _ _).mp h2
    refine ⟨(q.1 + priceR P 0 first + e2, q.2), ⟨x, List.mem_range.mpr hx, (gC_some ..).mpr ⟨q, hq, (charged_ex _ _ _ _).mpr ⟨e2, he, rfl⟩, rfl⟩⟩, ?_⟩
    have key := pr_app (a := q) (a' := r) (b := (0, [])) (b' := (0, [])) (k := priceR P 0 first + e2) (l := []) (by rw [csR_len m ring P f first _ _ _ hqs, csR_len m ring P f first _ _ _ hr]) rfl hle (pr_irrefl _)
    have e3 : p = (r.1 + 0 + (priceR P 0 first + e2), r.2 ++ ([] ++ [])) := Prod.ext (by rw [hc]; simp only; omega) (by rw [h3]; simp)
    have e4 : (q.1 + priceR P 0 first + e2, q.2) = (q.1 + 0 + (priceR P 0 first + e2), q.2 ++ ([] ++ [])) := Prod.ext (by simp only; omega) (by simp)
    rw [e3, e4]
    exact key
end
end Ob
/-! part Xk -/
namespace Ob
open PySem L2
local macro_rules | `(tactic| walk_at "wp") => `(tactic| simp only [q_wpE_c, q_wpE_slot, q_wpE_bin, q_wpE_neg, q_wpE_not, q_wpE_or, q_wpE_and, q_wpE_cmp, q_wpE_chain, q_wpE_ife, q_wpE_tup, q_wpE_lst, q_wpE_ix, q_wpE_cut, q_att, blD_eq, mvD_eq, ndD_eq, sq_pD, sq_lm, is_non, is_bl, is_int, is_lst, eq_nn, in_bl, in_lst, decide_true, am_1, am_2, am_3, ar_7, ar_2, ar_8, ar_9, ag_7, ag_2, ag_10, ag_8, ag_9, ck_n, ck_n1, cl_i, cl_i1, cl_n1, ci_t, ci_l, cn_t, cn_l, q_wpE_len, q_wpE_list, q_wpE_tuple, q_wpE_sum, q_wpE_min1, q_wpE_min2, q_wpE_int, q_wpE_all, q_wpE_sset, q_wpE_mdict, q_wpE_isi, q_wpE_pop, q_wpE_app, q_wpE_exd, q_wpE_call, q_wpE_meth, q_wpE_new, q_wpE_fz, q_wpE_bor, q_wpA_nil, q_wpA_cons, q_wpA_star, q_wpT_tv, q_wpT_tnot, q_wpT_tand, q_wpT_tor, q_wpT_noE, q_wpO_noE, q_wpO_tv, q_wpI_iSeq, q_wpI_iRan, q_wpI_iRan2, q_wpI_iEnum, q_wpI_iZip, q_wpI_iRev, e_lc, wpG, wpG.wpGs, wipeD, List.map_cons, List.map_nil, List.append_nil, List.cons_append, List.nil_append, List.replicate, List.length_cons, List.length_nil, List.length_map, Nat.reduceSub, Nat.reduceAdd, tN, enum_map,
  List.set_cons_zero, List.set_cons_succ, List.getElem?_cons_zero, List.getElem?_cons_succ, Option.some.injEq, Dt.int.injEq, Dt.bl.injEq, Dt.lst.injEq, Dt.tup.injEq, Dt.ins.injEq, Dt.adr.injEq, Cell.lst.injEq, Cell.ins.injEq, exists_eq_right, exists_eq_right', Prod.mk.injEq, exists_eq_left', exists_eq_left, exists_and_left, exists_eq', exists_eq, true_and, and_true, List.cons.injEq, and_self, and_assoc,
  bk_addi, bk_sub, bk_mul, bk_mod, bk_div, bk_pow, bk_cat, bk_rep, nk_f, nk_t, sq_lst, sq_tup, sq_pr, ls_lst, fz_lst, fz_tup, ts_non, ts_bl, ts_pr, cm_lt, cm_le, cm_gt, cm_ge, cm_eq, cm_ne, cm_eqb, cm_neb, cm_is, cm_isn, in_non, in_int, in_pr, in_o, in_oi, gt_hd, pt_hd, dl_hd,
  at_0, at_1, at_2, at_3, at_4, oD_n, oD_s, oi_n, oi_s, Option.isNone_none, Option.isNone_some, lim_0, lim_1, lim_2, lim_3, lim_4, lim_5, lim_6, lim_7, Int.natCast_nonneg, Int.ofNat_le, Bool.not_true, Bool.true_or, Bool.false_or, Bool.or_true, Bool.or_false, Bool.true_and, Bool.false_and, Bool.and_true, Bool.and_false, List.contains_cons, List.contains_nil, Nat.reduceBEq, Bool.not_false, Bool.true_eq_false, Bool.false_eq_true, false_imp_iff, true_imp_iff, reduceCtorEq, forall_const, Nat.reduceLT, Nat.reduceLeDiff, eq_self, forall_eq', forall_eq])
local macro_rules | `(tactic| walk_at "go") => `(tactic| (try dsimp only); (try walk_at "wp"); repeat (first | refine seq_i ?_ | (refine asg_i ?_; try walk_at "wp") | (refine drop_i ?_; try walk_at "wp") | (refine ret_i ?_; try walk_at "wp") | (refine forr_i ?_; try walk_at "wp") | (refine iff_i ?_; try walk_at "wp") | (refine seti_i ?_; try walk_at "wp") | (refine augi_i ?_; try walk_at "wp") | (refine seta_i ?_; try walk_at "wp") | (refine skip_i ?_; try walk_at "wp")))
/-! Plain mathematics: what a ring's labelling costs. -/
section
variable (m : Mac) (ring : List Int) (P : List (List Int)) (f : Option Int)
def Rw (lb : Nat → Int) : Nat → Int
  | 0 => 0
  | i + 1 => Rw lb i + (P.getD (i + 1) []).getD (lb (i + 1)).toNat 0
def Ro (lb : Nat → Int) : Nat → Nat
  | 0 => 0
  | i + 1 => Ro lb i + oneN (badR m ring (i + 1) (lb i) (lb (i + 1)))
theorem Rw_congr {lb lb' : Nat → Int} : ∀ i, (∀ j, j ≤ i → lb j = lb' j) → Rw P lb i = Rw P lb' i
  | 0, _ => rfl
  | i + 1, h => by
    unfold Rw
    rw [Rw_congr i (fun j hj => h j (by omega)), h (i + 1) (Nat.le_refl _)]
theorem Ro_congr {lb lb' : Nat → Int} : ∀ i, (∀ j, j ≤ i → lb j = lb' j) → Ro m ring lb i = Ro m ring lb' i
  | 0, _ => rfl
  | i + 1, h => by
    unfold Ro
    rw [Ro_congr i (fun j hj => h j (by omega)), h (i + 1) (Nat.le_refl _), h i (by omega)]
theorem csR_iff (first : Nat) (hf : first < m.n) : ∀ (i lab : Nat) (p : Pr), lab < m.n → (CsR m ring P f first i lab p ↔ Val m.n (i + 1) p.2 ∧ fn p.2 0 = (first : Int) ∧ fn p.2 i = (lab : Int) ∧ CoIs f (Rw P (fn p.2) i) (Ro m ring (fn p.2) i) p.1)
  | 0, lab, p, h => by
    constructor
    · rintro ⟨h1, h2⟩
      subst h1
      rw [h2]
      exact ⟨one_val h, rfl, rfl, .inl rfl, by simp [Rw, Ro]⟩
    · rintro ⟨h1, h2, h3, _, h4⟩
      obtain ⟨l, h5, h6⟩ := val_one h1
      rw [h5] at h2 h3
      have h7 : (l : Int) = first := h2
      have h8 : (l : Int) = lab := h3
      refine ⟨by omega, Prod.ext ?_ (by rw [h5, h7])⟩
      rw [h4]
      simp [Rw, Ro]
  | i + 1, lab, p, h => by
    constructor
    · rintro ⟨x, r, hx, h1, h2, h3⟩
      obtain ⟨v1, v2, v3, v4⟩ := (csR_iff first hf i x r hx).mp h1
      rw [h3]
      have hl := fn_last (xs := r.2) (y := (lab : Int)) v1.1
      have hc : ∀ j, j ≤ i → fn (r.2 ++ [(lab : Int)]) j = fn r.2 j := fun j hj => fn_l (by rw [v1.1]; omega)
      refine ⟨val_app v1 (one_val h), by rw [hc 0 (Nat.zero_le _)]; exact v2, hl, ?_⟩
      rw [co_charged, show r.1 + priceR P (i + 1) lab = 0 + r.1 + priceR P (i + 1) lab by omega] at h2
      have h4 := co_add v4 (co_sub h2)
      rw [show r.1 + (p.1 - r.1) = p.1 by omega] at h4
      unfold Rw Ro
      rw [Rw_congr P i hc, Ro_congr m ring i hc, hl, hc i (Nat.le_refl _), v3]
      exact h4
    · rintro ⟨h1, h2, h3, h4⟩
      obtain ⟨xs, ys, e, vx, vy⟩ := val_split (a := i + 1) (b := 1) h1
      obtain ⟨lab', rfl, hlab'⟩ := val_one vy
      rw [e] at h2 h3 h4
      have hl := fn_last (xs := xs) (y := (lab' : Int)) vx.1
      have hc : ∀ j, j ≤ i → fn (xs ++ [(lab' : Int)]) j = fn xs j := fun j hj => fn_l (by rw [vx.1]; omega)
      have h7 : lab' = lab := by
        have : (lab' : Int) = lab := hl.symm.trans h3
        omega
      subst h7
      unfold Rw Ro at h4
      rw [Rw_congr P i hc, Ro_congr m ring i hc, hl, hc i (Nat.le_refl _)] at h4
      obtain ⟨c1, c2, g1, g2, g3⟩ := co_split h4
      have hm := vx.2 _ (fn_mem (xs := xs) (i := i) (by rw [vx.1]; omega))
      have ex : fn xs i = ((fn xs i).toNat : Int) := by omega
      refine ⟨(fn xs i).toNat, (c1, xs), by omega, (csR_iff first hf i _ _ (by omega)).mpr ⟨vx, by rw [← hc 0 (Nat.zero_le _)]; exact h2, ex, g1⟩, ?_, e⟩
      rw [co_charged, ← ex, g3]
      have := co_sup (k := c1) g2
      rw [show 0 + c1 + (P.getD (i + 1) []).getD ((lab' : Int)).toNat 0 = c1 + priceR P (i + 1) lab' by unfold priceR; rw [Int.toNat_natCast]; omega] at this
      exact this
theorem Rw_sum (lb : Nat → Int) : ∀ k, Rw P lb k = ((List.range k).map fun i => (P.getD (i + 1) []).getD (lb (i + 1)).toNat 0).sum
  | 0 => rfl
  | k + 1 => by
    rw [List.range_succ, List.map_append, List.sum_append, ← Rw_sum lb k]
    simp [Rw]
theorem Ro_sum (lb : Nat → Int) : ∀ k, Ro m ring lb k = ((List.range k).map fun i => oneN (badR m ring (i + 1) (lb i) (lb (i + 1)))).sum
  | 0 => rfl
  | k + 1 => by
    rw [List.range_succ, List.map_append, List.sum_append, ← Ro_sum lb k]
    simp [Ro]
end
theorem whole_ring {P : List (List Int)} {ls : List Int} {r : Nat} (h : ls.length = r + 1) : wholeF P ls = (P.getD 0 []).getD (fn ls 0).toNat 0 + Rw P (fn ls) r := by
  unfold wholeF
  rw [h, List.range_succ_eq_map, List.map_cons, List.sum_cons, List.map_map, Rw_sum]
  rfl
theorem obj_ring {m : Mac} {q : Lm} (h : Same2 m q) {ring ls : List Int} {r : Nat} (hr : ring.length = r + 1) (hl : ls.length = r + 1) : (ringObjF q ring ls).length = oneN (badR m ring 0 (fn ls r) (fn ls 0)) + Ro m ring (fn ls) r := by
  unfold ringObjF
  rw [filter_sum, hr, List.range_succ_eq_map, List.map_cons, List.sum_cons, List.map_map, Ro_sum]
  have hb : ∀ x y : Int, ∀ k, (!decide ((ring.getD k 0, [x], y) ∈ q.mv)) = badR m ring k x y := by
    intro x y k
    unfold badR
    congr 1
    rw [decide_eq_decide]
    exact (h.mv _).symm
  congr 1
  · congr 1
    have hne : ls ≠ [] := by
      intro e
      rw [e] at hl
      cases hl
    have e1 : atI ls (((0 : Nat) : Int) - 1) = some (fn ls r) := by
      have h2 : ls.getLast? = some (fn ls r) := by
        rw [List.getLast?_eq_getElem?, hl]
        show ls[r]? = some (ls.getD r 0)
        rw [List.getD_eq_getElem?_getD, List.getElem?_eq_getElem (by omega)]
        rfl
      exact at_m1 h2
    unfold ringBad
    rw [e1]
    exact hb (fn ls r) (fn ls 0) 0
  · apply congrArg
    apply List.map_congr_left
    intro i hi
    rw [List.mem_range] at hi
    simp only [Function.comp]
    congr 1
    have e1 : atI ls (((i + 1 : Nat) : Int) - 1) = some (fn ls i) := by
      rw [show (((i + 1 : Nat) : Int) - 1) = (i : Int) by omega]
      refine at_n ?_
      show ls[i]? = some (ls.getD i 0)
      rw [List.getD_eq_getElem?_getD, List.getElem?_eq_getElem (by omega)]
      rfl
    unfold ringBad
    rw [e1]
    exact hb (fn ls i) (fn ls (i + 1)) (i + 1)
/-- the ring's best is the law's -/
theorem ring_best {m : Mac} {q : Lm} (h : Same2 m q) (ring : List Int) (P : List (List Int)) (f : Option Int) (hr : 1 ≤ ring.length) :
    (List.range m.n).foldl (fun b first => better b (closedF m ring P f first ((ringRows m ring P f first).getLastD []))) none = bestL (listsF ring.length q.n) ((listsF ring.length q.n).map fun ls => costF P f ls (ringObjF q ring ls).length) := by
  obtain ⟨r, hr2⟩ : ∃ r, ring.length = r + 1 := ⟨ring.length - 1, by omega⟩
  have e : (fun (b : Option Pr) first => better b (closedF m ring P f first ((ringRows m ring P f first).getLastD []))) = fun b first => better b (closedF m ring P f first (RW m ring P f first (ring.length - 1))) := by
    funext b first
    rw [ringRows_last m ring P f first hr]
  rw [e]
  refine (IsMin.fold0 (List.range m.n) fun first _ => closed_min m ring P f first).uniq ((bestL_min (fun ls => costF P f ls (ringObjF q ring ls).length) (lists_sorted ring.length q.n)).congr fun p => ?_)
  rw [lists_val, costF_iff, ← h.n]
  constructor
  · rintro ⟨v, c⟩
    rw [hr2] at v
    rw [whole_ring v.1, obj_ring h hr2 v.1] at c
    have hm := v.2 _ (fn_mem (xs := p.2) (i := 0) (by rw [v.1]; omega))
    have hm2 := v.2 _ (fn_mem (xs := p.2) (i := r) (by rw [v.1]; omega))
    obtain ⟨c1, c2, g1, g2, g3⟩ := co_split c
    refine ⟨(fn p.2 0).toNat, List.mem_range.mpr (by omega), (fn p.2 r).toNat, (c2, p.2), by omega, ?_, ?_, rfl⟩
    · rw [hr2]
      exact (csR_iff m ring P f _ (by omega) r _ _ (by omega)).mpr ⟨v, by simp only; omega, by simp only; omega, g2⟩
    · rw [co_charged, show (((fn p.2 0).toNat : Nat) : Int) = fn p.2 0 by omega, show (((fn p.2 r).toNat : Nat) : Int) = fn p.2 r by omega, g3]
      have := co_sup (k := c2) g1
      rw [show 0 + c2 + (P.getD 0 []).getD (fn p.2 0).toNat 0 = c2 + priceR P 0 (fn p.2 0).toNat by unfold priceR; omega, Int.add_comm c2 c1] at this
      exact this
  · rintro ⟨first, hf, x, r1, hx, h1, h2, h3⟩
    rw [List.mem_range] at hf
    rw [hr2] at h1
    obtain ⟨v1, v2, v3, v4⟩ := (csR_iff m ring P f first hf r x r1 hx).mp h1
    rw [h3, hr2]
    refine ⟨v1, ?_⟩
    rw [whole_ring v1.1, obj_ring h hr2 v1.1, v2, v3]
    rw [co_charged, show r1.1 + priceR P 0 first = 0 + r1.1 + priceR P 0 first by omega] at h2
    have h4 := co_add (co_sub h2) v4
    rw [show p.1 - r1.1 + r1.1 = p.1 by omega] at h4
    exact h4
end Ob
/-! part Xl -/
namespace Ob
open PySem L2
local macro_rules | `(tactic| walk_at "wp") => `(tactic| simp only [q_wpE_c, q_wpE_slot, q_wpE_bin, q_wpE_neg, q_wpE_not, q_wpE_or, q_wpE_and, q_wpE_cmp, q_wpE_chain, q_wpE_ife, q_wpE_tup, q_wpE_lst, q_wpE_ix, q_wpE_cut, q_att, blD_eq, mvD_eq, ndD_eq, sq_pD, sq_lm, is_non, is_bl, is_int, is_lst, eq_nn, in_bl, in_lst, decide_true, am_1, am_2, am_3, ar_7, ar_2, ar_8, ar_9, ag_7, ag_2, ag_10, ag_8, ag_9, ck_n, ck_n1, cl_i, cl_i1, cl_n1, ci_t, ci_l, cn_t, cn_l, q_wpE_len, q_wpE_list, q_wpE_tuple, q_wpE_sum, q_wpE_min1, q_wpE_min2, q_wpE_int, q_wpE_all, q_wpE_sset, q_wpE_mdict, q_wpE_isi, q_wpE_pop, q_wpE_app, q_wpE_exd, q_wpE_call, q_wpE_meth, q_wpE_new, q_wpE_fz, q_wpE_bor, q_wpA_nil, q_wpA_cons, q_wpA_star, q_wpT_tv, q_wpT_tnot, q_wpT_tand, q_wpT_tor, q_wpT_noE, q_wpO_noE, q_wpO_tv, q_wpI_iSeq, q_wpI_iRan, q_wpI_iRan2, q_wpI_iEnum, q_wpI_iZip, q_wpI_iRev, e_lc, wpG, wpG.wpGs, wipeD, List.map_cons, List.map_nil, List.append_nil, List.cons_append, List.nil_append, List.replicate, List.length_cons, List.length_nil, List.length_map, Nat.reduceSub, Nat.reduceAdd, tN, enum_map,
  List.set_cons_zero, List.set_cons_succ, List.getElem?_cons_zero, List.getElem?_cons_succ, Option.some.injEq, Dt.int.injEq, Dt.bl.injEq, Dt.lst.injEq, Dt.tup.injEq, Dt.ins.injEq, Dt.adr.injEq, Cell.lst.injEq, Cell.ins.injEq, exists_eq_right, exists_eq_right', Prod.mk.injEq, exists_eq_left', exists_eq_left, exists_and_left, exists_eq', exists_eq, true_and, and_true, List.cons.injEq, and_self, and_assoc,
  bk_addi, bk_sub, bk_mul, bk_mod, bk_div, bk_pow, bk_cat, bk_rep, nk_f, nk_t, sq_lst, sq_tup, sq_pr, ls_lst, fz_lst, fz_tup, ts_non, ts_bl, ts_pr, cm_lt, cm_le, cm_gt, cm_ge, cm_eq, cm_ne, cm_eqb, cm_neb, cm_is, cm_isn, in_non, in_int, in_pr, in_o, in_oi, gt_hd, pt_hd, dl_hd,
  at_0, at_1, at_2, at_3, at_4, oD_n, oD_s, oi_n, oi_s, Option.isNone_none, Option.isNone_some, lim_0, lim_1, lim_2, lim_3, lim_4, lim_5, lim_6, lim_7, Int.natCast_nonneg, Int.ofNat_le, Bool.not_true, Bool.true_or, Bool.false_or, Bool.or_true, Bool.or_false, Bool.true_and, Bool.false_and, Bool.and_true, Bool.and_false, List.contains_cons, List.contains_nil, Nat.reduceBEq, Bool.not_false, Bool.true_eq_false, Bool.false_eq_true, false_imp_iff, true_imp_iff, reduceCtorEq, forall_const, Nat.reduceLT, Nat.reduceLeDiff, eq_self, forall_eq', forall_eq])
local macro_rules | `(tactic| walk_at "go") => `(tactic| (try dsimp only); (try walk_at "wp"); repeat (first | refine seq_i ?_ | (refine asg_i ?_; try walk_at "wp") | (refine drop_i ?_; try walk_at "wp") | (refine ret_i ?_; try walk_at "wp") | (refine forr_i ?_; try walk_at "wp") | (refine iff_i ?_; try walk_at "wp") | (refine seti_i ?_; try walk_at "wp") | (refine augi_i ?_; try walk_at "wp") | (refine seta_i ?_; try walk_at "wp") | (refine skip_i ?_; try walk_at "wp")))
/-! Plain mathematics: the ring's answers agree. -/
def LW (q : Lm) (ring : List Int) (P : List (List Int)) (f : Option Int) (first : Nat) : Nat → List (Option Int)
  | 0 => ringRows0 q first
  | i + 1 => lawStep q (ring.getD (i + 1) 0) (LW q ring P f first i) (P.getD (i + 1) []) f
theorem lrows_eq (q : Lm) (ring : List Int) (P : List (List Int)) (f : Option Int) (first : Nat) : ∀ k, (List.range k).foldl (fun rows i => rows ++ [lawStep q (ring.getD (i + 1) 0) (rows.getLastD []) (P.getD (i + 1) []) f]) [ringRows0 q first] = (List.range (k + 1)).map (LW q ring P f first)
  | 0 => rfl
  | k + 1 => by
    rw [List.range_succ, List.foldl_append, lrows_eq q ring P f first k, List.range_succ (n := k + 1), List.map_append]
    simp only [List.foldl_cons, List.foldl_nil, List.map_cons, List.map_nil]
    congr 3
    rw [List.range_succ, List.map_append]
    congr 1
    exact getLastD_app ..
theorem lawRows_eq (q : Lm) (ring : List Int) (P : List (List Int)) (f : Option Int) (first : Nat) (h : 1 ≤ ring.length) : lawRows q ring P f first = (List.range ring.length).map (LW q ring P f first) := by
  unfold lawRows
  rw [lrows_eq, show ring.length - 1 + 1 = ring.length by omega]
theorem row0_eq {q : Lm} {first : Nat} (hf : first < q.n) : crow (ringRow0 q.n first) = ringRows0 q first := by
  unfold crow ringRow0 ringRows0
  apply List.ext_getElem?
  intro i
  rw [List.map_map, List.getElem?_map]
  by_cases hi : i < q.n
  · rw [List.getElem?_range hi]
    simp only [Option.map_some, Function.comp]
    by_cases e : i = first
    · subst e
      rw [if_pos rfl, List.getElem?_set_self (by rw [List.length_replicate]; exact hi)]
      rfl
    · rw [if_neg (by omega), List.getElem?_set_ne (fun h => e h.symm), List.getElem?_replicate, if_pos hi]
      rfl
  · rw [List.getElem?_eq_none (by rw [List.length_range]; omega), List.getElem?_eq_none (by rw [List.length_set, List.length_replicate]; omega)]
    rfl
theorem ringRow_eq {m : Mac} {q : Lm} (h : Same2 m q) (ring : List Int) (P : List (List Int)) (f : Option Int) (at_ : Nat) (before : Row) (hb : before.length = m.n) : crow (ringRow m ring P f at_ before) = lawStep q (ring.getD at_ 0) (crow before) (P.getD at_ []) f := by
  unfold lawStep
  apply List.ext_getElem?
  intro lab
  have hl : (crow (ringRow m ring P f at_ before)).length = m.n := by
    unfold crow ringRow
    rw [List.length_map, List.length_map, List.length_range]
  rw [List.getElem?_map, ← h.n]
  by_cases hlab : lab < m.n
  · rw [List.getElem?_range hlab]
    have e1 : (crow (ringRow m ring P f at_ before))[lab]? = some (costOf ((ringRow m ring P f at_ before).getD lab none)) := by
      have h2 := crow_get (ringRow m ring P f at_ before) lab
      rw [List.getD_eq_getElem?_getD, List.getElem?_eq_getElem (by rw [hl]; exact hlab)] at h2
      rw [List.getElem?_eq_getElem (by rw [hl]; exact hlab), ← h2]
      rfl
    rw [e1, ringRow_get m ring P f hlab hb, cost_fold]
    simp only [Option.map_some]
    congr 1
    show (List.range m.n).foldl (fun c x => minO c (costOf (gR m ring P f at_ lab (before.getD x none, x)))) none = _
    rw [minO_none]
    congr 1
    refine fm_congr _ fun own _ => ?_
    unfold stepOne gR
    rw [crow_get]
    cases before.getD own none with
    | none => rfl
    | some p =>
      simp only [Option.bind_some, costOf, Option.map_some]
      unfold charged badR priceR
      by_cases hm : (ring.getD at_ 0, [(own : Int)], (lab : Int)) ∈ m.mv
      · rw [if_pos ((h.mv _).mp hm), decide_eq_true hm]
        rfl
      · rw [if_neg (fun h2 => hm ((h.mv _).mpr h2)), decide_eq_false hm]
        cases f <;> rfl
  · rw [List.getElem?_eq_none (by rw [hl]; omega), List.getElem?_eq_none (by rw [List.length_range]; omega)]
    rfl
theorem LW_eq {m : Mac} {q : Lm} (h : Same2 m q) (ring : List Int) (P : List (List Int)) (f : Option Int) {first : Nat} (hf : first < m.n) : ∀ i, crow (RW m ring P f first i) = LW q ring P f first i
  | 0 => by
    show crow (ringRow0 m.n first) = ringRows0 q first
    rw [h.n]
    exact row0_eq (by rw [← h.n]; exact hf)
  | i + 1 => by
    show crow (ringRow m ring P f (i + 1) (RW m ring P f first i)) = lawStep q (ring.getD (i + 1) 0) (LW q ring P f first i) (P.getD (i + 1) []) f
    rw [ringRow_eq h _ _ _ _ _ (RW_len ..), LW_eq h ring P f hf i]
theorem ring_numbers {m : Mac} {q : Lm} (h : Same2 m q) (ring : List Int) (P : List (List Int)) (f : Option Int) (hr : 1 ≤ ring.length) : (List.range m.n).map (fun first => (ringRows m ring P f first).map fun r => r.map costOf) = lawRing q ring P f := by
  unfold lawRing
  rw [h.n]
  apply List.map_congr_left
  intro first hf
  rw [List.mem_range, ← h.n] at hf
  rw [ringRows_eq m ring P f first hr, lawRows_eq q ring P f first hr, List.map_map]
  apply List.map_congr_left
  intro i _
  exact LW_eq h ring P f hf i
def Chain (mv : List Mv) : Int → List Int → List Int → Int → Prop
  | x, [], [], y => y = x
  | x, c :: cs, l :: ls, y => (c, [x], l) ∈ mv ∧ Chain mv l cs ls y
  | _, _, _, _ => False
theorem known_mem {m : Mac} {known : List Int} {c y : Int} : y ∈ knownStep m known c ↔ ∃ x ∈ known, (c, [x], y) ∈ m.mv := by
  unfold knownStep
  simp only [List.mem_map, List.mem_filter, Bool.and_eq_true, decide_eq_true_iff]
  constructor
  · rintro ⟨⟨a, b, d⟩, ⟨⟨h1, h2, h3⟩, h4⟩, h5⟩
    simp only at h1 h2 h3 h4 h5
    obtain ⟨x, rfl⟩ := List.length_eq_one_iff.mp h3
    subst h2
    subst h5
    exact ⟨x, h4, h1⟩
  · rintro ⟨x, hx, h⟩
    exact ⟨(c, [x], y), ⟨⟨h, rfl, rfl⟩, hx⟩, rfl⟩
theorem fold_mem2 {m : Mac} : ∀ (rs known : List Int) (y : Int), y ∈ rs.foldl (knownStep m) known ↔ ∃ x ∈ known, ∃ ls, Chain m.mv x rs ls y
  | [], known, y => by
    constructor
    · intro h
      exact ⟨y, h, [], rfl⟩
    · rintro ⟨x, hx, ls, h⟩
      cases ls with
      | nil =>
        have h : y = x := h
        subst h
        exact hx
      | cons l ls => exact absurd h id
  | c :: rs, known, y => by
    rw [List.foldl_cons, fold_mem2 rs]
    constructor
    · rintro ⟨x, hx, ls, h⟩
      obtain ⟨w, hw, h2⟩ := known_mem.mp hx
      exact ⟨w, hw, x :: ls, h2, h⟩
    · rintro ⟨w, hw, ls, h⟩
      cases ls with
      | nil => exact absurd h id
      | cons x ls => exact ⟨x, known_mem.mpr ⟨w, hw, h.1⟩, ls, h.2⟩
theorem chain_iff {mv : List Mv} : ∀ (rs ls : List Int) (x y : Int), Chain mv x rs ls y ↔ ls.length = rs.length ∧ (∀ k, k < rs.length → (rs.getD k 0, [if k = 0 then x else ls.getD (k - 1) 0], ls.getD k 0) ∈ mv) ∧ y = if rs.length = 0 then x else ls.getD (rs.length - 1) 0
  | [], [], x, y => by simp [Chain]
  | [], _ :: _, x, y => by simp [Chain]
  | _ :: _, [], x, y => by simp [Chain]
  | c :: rs, l :: ls, x, y => by
    show (c, [x], l) ∈ mv ∧ Chain mv l rs ls y ↔ _
    rw [chain_iff rs ls l y]
    constructor
    · rintro ⟨h1, h2, h3, h4⟩
      refine ⟨by simp [h2], ?_, ?_⟩
      · intro k hk
        cases k with
        | zero => exact h1
        | succ k =>
          have := h3 k (by simpa using hk)
          cases k with
          | zero => exact this
          | succ k => exact this
      · rw [h4]
        cases rs with
        | nil => rfl
        | cons a rs => rfl
    · rintro ⟨h2, h3, h4⟩
      refine ⟨h3 0 (by simp), by simpa using h2, ?_, ?_⟩
      · intro k hk
        have := h3 (k + 1) (by simpa using hk)
        cases k with
        | zero => exact this
        | succ k => exact this
      · rw [h4]
        cases rs with
        | nil => rfl
        | cons a rs => rfl
end Ob
/-! part Xm -/
namespace Ob
open PySem L2
local macro_rules | `(tactic| walk_at "wp") => `(tactic| simp only [q_wpE_c, q_wpE_slot, q_wpE_bin, q_wpE_neg, q_wpE_not, q_wpE_or, q_wpE_and, q_wpE_cmp, q_wpE_chain, q_wpE_ife, q_wpE_tup, q_wpE_lst, q_wpE_ix, q_wpE_cut, q_att, blD_eq, mvD_eq, ndD_eq, sq_pD, sq_lm, is_non, is_bl, is_int, is_lst, eq_nn, in_bl, in_lst, decide_true, am_1, am_2, am_3, ar_7, ar_2, ar_8, ar_9, ag_7, ag_2, ag_10, ag_8, ag_9, ck_n, ck_n1, cl_i, cl_i1, cl_n1, ci_t, ci_l, cn_t, cn_l, q_wpE_len, q_wpE_list, q_wpE_tuple, q_wpE_sum, q_wpE_min1, q_wpE_min2, q_wpE_int, q_wpE_all, q_wpE_sset, q_wpE_mdict, q_wpE_isi, q_wpE_pop, q_wpE_app, q_wpE_exd, q_wpE_call, q_wpE_meth, q_wpE_new, q_wpE_fz, q_wpE_bor, q_wpA_nil, q_wpA_cons, q_wpA_star, q_wpT_tv, q_wpT_tnot, q_wpT_tand, q_wpT_tor, q_wpT_noE, q_wpO_noE, q_wpO_tv, q_wpI_iSeq, q_wpI_iRan, q_wpI_iRan2, q_wpI_iEnum, q_wpI_iZip, q_wpI_iRev, e_lc, wpG, wpG.wpGs, wipeD, List.map_cons, List.map_nil, List.append_nil, List.cons_append, List.nil_append, List.replicate, List.length_cons, List.length_nil, List.length_map, Nat.reduceSub, Nat.reduceAdd, tN, enum_map,
  List.set_cons_zero, List.set_cons_succ, List.getElem?_cons_zero, List.getElem?_cons_succ, Option.some.injEq, Dt.int.injEq, Dt.bl.injEq, Dt.lst.injEq, Dt.tup.injEq, Dt.ins.injEq, Dt.adr.injEq, Cell.lst.injEq, Cell.ins.injEq, exists_eq_right, exists_eq_right', Prod.mk.injEq, exists_eq_left', exists_eq_left, exists_and_left, exists_eq', exists_eq, true_and, and_true, List.cons.injEq, and_self, and_assoc,
  bk_addi, bk_sub, bk_mul, bk_mod, bk_div, bk_pow, bk_cat, bk_rep, nk_f, nk_t, sq_lst, sq_tup, sq_pr, ls_lst, fz_lst, fz_tup, ts_non, ts_bl, ts_pr, cm_lt, cm_le, cm_gt, cm_ge, cm_eq, cm_ne, cm_eqb, cm_neb, cm_is, cm_isn, in_non, in_int, in_pr, in_o, in_oi, gt_hd, pt_hd, dl_hd,
  at_0, at_1, at_2, at_3, at_4, oD_n, oD_s, oi_n, oi_s, Option.isNone_none, Option.isNone_some, lim_0, lim_1, lim_2, lim_3, lim_4, lim_5, lim_6, lim_7, Int.natCast_nonneg, Int.ofNat_le, Bool.not_true, Bool.true_or, Bool.false_or, Bool.or_true, Bool.or_false, Bool.true_and, Bool.false_and, Bool.and_true, Bool.and_false, List.contains_cons, List.contains_nil, Nat.reduceBEq, Bool.not_false, Bool.true_eq_false, Bool.false_eq_true, false_imp_iff, true_imp_iff, reduceCtorEq, forall_const, Nat.reduceLT, Nat.reduceLeDiff, eq_self, forall_eq', forall_eq])
local macro_rules | `(tactic| walk_at "go") => `(tactic| (try dsimp only); (try walk_at "wp"); repeat (first | refine seq_i ?_ | (refine asg_i ?_; try walk_at "wp") | (refine drop_i ?_; try walk_at "wp") | (refine ret_i ?_; try walk_at "wp") | (refine forr_i ?_; try walk_at "wp") | (refine iff_i ?_; try walk_at "wp") | (refine seti_i ?_; try walk_at "wp") | (refine augi_i ?_; try walk_at "wp") | (refine seta_i ?_; try walk_at "wp") | (refine skip_i ?_; try walk_at "wp")))
/-! Plain mathematics: all that the law asks. -/
theorem prev_get {ls : List Int} {r k : Nat} (hl : ls.length = r) (hk : k < r) : (atI ls ((k : Int) - 1)).getD 0 = if k = 0 then ls.getD (r - 1) 0 else ls.getD (k - 1) 0 := by
  cases k with
  | zero =>
    have h2 : ls.getLast? = some (ls.getD (r - 1) 0) := by
      rw [List.getLast?_eq_getElem?, hl, List.getD_eq_getElem?_getD, List.getElem?_eq_getElem (by omega)]
      rfl
    have e1 : atI ls (((0 : Nat) : Int) - 1) = some (ls.getD (r - 1) 0) := at_m1 h2
    rw [e1]
    rfl
  | succ k =>
    have e1 : atI ls (((k + 1 : Nat) : Int) - 1) = some (ls.getD k 0) := by
      rw [show (((k + 1 : Nat) : Int) - 1) = (k : Int) by omega]
      refine at_n ?_
      rw [List.getD_eq_getElem?_getD, List.getElem?_eq_getElem (by omega)]
      rfl
    rw [e1]
    rfl
theorem obj_zero {q : Lm} {ring ls : List Int} (hl : ls.length = ring.length) : (ringObjF q ring ls).length = 0 ↔ ∀ k, k < ring.length → (ring.getD k 0, [if k = 0 then ls.getD (ring.length - 1) 0 else ls.getD (k - 1) 0], ls.getD k 0) ∈ q.mv := by
  unfold ringObjF
  rw [List.length_eq_zero_iff, List.filter_eq_nil_iff]
  constructor
  · intro h k hk
    have := h k (List.mem_range.mpr hk)
    unfold ringBad at this
    rw [prev_get hl hk] at this
    simpa using this
  · intro h k hk
    rw [List.mem_range] at hk
    unfold ringBad
    rw [prev_get hl hk, decide_eq_true (h k hk)]
    simp
theorem wish_eq {m : Mac} {q : Lm} (h : Same2 m q) (mo : m.Ok) (ring : List Int) (hr : 1 ≤ ring.length) : ringWish m ring = (listsF ring.length q.n).any fun ls => decide ((ringObjF q ring ls).length = 0) := by
  rw [Bool.eq_iff_iff]
  unfold ringWish
  rw [List.any_eq_true, List.any_eq_true]
  constructor
  · rintro ⟨first, hf, hd⟩
    have hd := of_decide_eq_true hd
    obtain ⟨x, hx, ls, hc⟩ := (fold_mem2 ring [(first : Int)] (first : Int)).mp hd
    have hx : x = (first : Int) := by simpa using hx
    subst hx
    obtain ⟨h1, h2, h3⟩ := (chain_iff ring ls _ _).mp hc
    rw [if_neg (by omega)] at h3
    refine ⟨ls, (lists_val _ _ _).mpr ⟨h1, fun y hy => ?_⟩, decide_eq_true ((obj_zero h1).mpr fun k hk => ?_)⟩
    · obtain ⟨k, hk⟩ := List.mem_iff_getElem?.mp hy
      have hkl := (List.getElem?_eq_some_iff.mp hk).1
      have h4 := mo.lab _ (h2 k (by omega))
      have e : ls.getD k 0 = y := by
        rw [List.getD_eq_getElem?_getD, hk]
        rfl
      simp only [e] at h4
      rw [← h.n]
      exact h4
    · rw [← h3]
      exact (h.mv _).mp (h2 k hk)
  · rintro ⟨ls, hls, hd⟩
    have v := (lists_val _ _ _).mp hls
    have hz := (obj_zero v.1).mp (of_decide_eq_true hd)
    have hm := v.2 _ (fn_mem (xs := ls) (i := ring.length - 1) (by rw [v.1]; omega))
    have e : (((fn ls (ring.length - 1)).toNat : Nat) : Int) = ls.getD (ring.length - 1) 0 := by
      show _ = fn ls (ring.length - 1)
      omega
    refine ⟨(fn ls (ring.length - 1)).toNat, List.mem_range.mpr (by rw [h.n]; omega), decide_eq_true ?_⟩
    rw [e]
    refine (fold_mem2 ring _ _).mpr ⟨_, List.mem_singleton.mpr rfl, ls, (chain_iff ring ls _ _).mpr ⟨v.1, fun k hk => (h.mv _).mpr (hz k hk), ?_⟩⟩
    rw [if_neg (by omega)]
theorem ring_math (m : Mac) (q : Lm) (ring : List Int) (P : List (List Int)) (f : Option Int) (h : Same2 m q) (mo : m.Ok) (hr : 1 ≤ ring.length) : toldR m ring P f = dueR q ring P f := by
  unfold toldR dueR
  simp only
  rw [wish_eq h mo ring hr]
  have e1 := ring_best h ring P f hr
  have e2 := ring_numbers h ring P f hr
  unfold bestRingF
  simp only
  rw [e1, e2]
  rfl
end Ob
/-! part W3 -/
namespace Ob
open PySem L2
local macro_rules | `(tactic| walk_at "wp") => `(tactic| simp only [q_wpE_c, q_wpE_slot, q_wpE_bin, q_wpE_neg, q_wpE_not, q_wpE_or, q_wpE_and, q_wpE_cmp, q_wpE_chain, q_wpE_ife, q_wpE_tup, q_wpE_lst, q_wpE_ix, q_wpE_cut, q_att, blD_eq, mvD_eq, ndD_eq, sq_pD, sq_lm, is_non, is_bl, is_int, is_lst, eq_nn, in_bl, in_lst, decide_true, am_1, am_2, am_3, ar_7, ar_2, ar_8, ar_9, ag_7, ag_2, ag_10, ag_8, ag_9, ck_n, ck_n1, cl_i, cl_i1, cl_n1, ci_t, ci_l, cn_t, cn_l, q_wpE_len, q_wpE_list, q_wpE_tuple, q_wpE_sum, q_wpE_min1, q_wpE_min2, q_wpE_int, q_wpE_all, q_wpE_sset, q_wpE_mdict, q_wpE_isi, q_wpE_pop, q_wpE_app, q_wpE_exd, q_wpE_call, q_wpE_meth, q_wpE_new, q_wpE_fz, q_wpE_bor, q_wpA_nil, q_wpA_cons, q_wpA_star, q_wpT_tv, q_wpT_tnot, q_wpT_tand, q_wpT_tor, q_wpT_noE, q_wpO_noE, q_wpO_tv, q_wpI_iSeq, q_wpI_iRan, q_wpI_iRan2, q_wpI_iEnum, q_wpI_iZip, q_wpI_iRev, e_lc, wpG, wpG.wpGs, wipeD, List.map_cons, List.map_nil, List.append_nil, List.cons_append, List.nil_append, List.replicate, List.length_cons, List.length_nil, List.length_map, Nat.reduceSub, Nat.reduceAdd, tN, enum_map,
  List.set_cons_zero, List.set_cons_succ, List.getElem?_cons_zero, List.getElem?_cons_succ, Option.some.injEq, Dt.int.injEq, Dt.bl.injEq, Dt.lst.injEq, Dt.tup.injEq, Dt.ins.injEq, Dt.adr.injEq, Cell.lst.injEq, Cell.ins.injEq, exists_eq_right, exists_eq_right', Prod.mk.injEq, exists_eq_left', exists_eq_left, exists_and_left, exists_eq', exists_eq, true_and, and_true, List.cons.injEq, and_self, and_assoc,
  bk_addi, bk_sub, bk_mul, bk_mod, bk_div, bk_pow, bk_cat, bk_rep, nk_f, nk_t, sq_lst, sq_tup, sq_pr, ls_lst, fz_lst, fz_tup, ts_non, ts_bl, ts_pr, cm_lt, cm_le, cm_gt, cm_ge, cm_eq, cm_ne, cm_eqb, cm_neb, cm_is, cm_isn, in_non, in_int, in_pr, in_o, in_oi, gt_hd, pt_hd, dl_hd,
  at_0, at_1, at_2, at_3, at_4, oD_n, oD_s, oi_n, oi_s, Option.isNone_none, Option.isNone_some, lim_0, lim_1, lim_2, lim_3, lim_4, lim_5, lim_6, lim_7, Int.natCast_nonneg, Int.ofNat_le, Bool.not_true, Bool.true_or, Bool.false_or, Bool.or_true, Bool.or_false, Bool.true_and, Bool.false_and, Bool.and_true, Bool.and_false, List.contains_cons, List.contains_nil, Nat.reduceBEq, Bool.not_false, Bool.true_eq_false, Bool.false_eq_true, false_imp_iff, true_imp_iff, reduceCtorEq, forall_const, Nat.reduceLT, Nat.reduceLeDiff, eq_self, forall_eq', forall_eq])
local macro_rules | `(tactic| walk_at "go") => `(tactic| (try dsimp only); (try walk_at "wp"); repeat (first | refine seq_i ?_ | (refine asg_i ?_; try walk_at "wp") | (refine drop_i ?_; try walk_at "wp") | (refine ret_i ?_; try walk_at "wp") | (refine forr_i ?_; try walk_at "wp") | (refine iff_i ?_; try walk_at "wp") | (refine seti_i ?_; try walk_at "wp") | (refine augi_i ?_; try walk_at "wp") | (refine seta_i ?_; try walk_at "wp") | (refine skip_i ?_; try walk_at "wp")))
/-! Walks: rings. -/
theorem d_Ring_init (F : Nat → FS) : Does F 6 5 b_Ring_init S_Ring_init := by
  rintro ds u K ⟨p, m, g, P, f, u0, rfl, rfl, mo, k⟩
  refine ⟨rfl, ?_⟩
  have k := keepK k
  simp only [st0]
  unfold b_Ring_init
  walk_at "go"
  refine lc_m (xs := m.mv) (enc := mvD) (fun x => .tup [mvD x, .bl true]) (by have := mo.few; simp only [LIM]; omega) (fun x hx J hj => ?_) ?_
  · walk_at "go"
    exact hj
  walk_at "go"
  refine ⟨m.mv, rfl, mo.nd, by have := mo.few; omega, ?_⟩
  walk_at "go"
  exact k
theorem d_Ring_charge (F : Nat → FS) (h8 : F 8 = S_charged) : Does F 5 5 b_Ring_charge S_Ring_charge := by
  rintro ds u K ⟨m, ring, P, f, fi, c, at_, b, l, rfl, rfl, hat, k⟩
  refine ⟨rfl, ?_⟩
  have k := keepK k
  simp only [st0]
  unfold b_Ring_charge
  have e1 : atI (ring.map Dt.int) (at_ : Int) = some (.int (ring.getD at_ 0)) := at_i hat
  walk_at "go"
  refine ⟨_, e1, ?_⟩
  walk_at "go"
  rw [h8]
  exact ⟨c, _, fi, rfl, k⟩
theorem ringStep_le {m : Mac} {ring : List Int} {P : List (List Int)} {f : Option Int} {at_ lab n : Nat} {os : List (Option Pr × Nat)} (h : ∀ o ∈ os, ∀ q, o.1 = some q → q.2.length ≤ n) : ∀ q, os.foldl (ringStep m ring P f at_ lab) none = some q → q.2.length ≤ n + 1 := by
  refine fold_mem (P := fun b : Option Pr => ∀ q, b = some q → q.2.length ≤ n + 1) os none (by simp) (fun b o ho hb => ?_)
  unfold ringStep
  split
  · exact hb
  · rename_i q hq
    split
    · exact hb
    · exact better_le hb (by
        intro q2 hq2
        cases hq2
        have := h o ho q hq
        simp
        omega)
theorem ringRow_le {m : Mac} {ring : List Int} {P : List (List Int)} {f : Option Int} {at_ n : Nat} {before : Row} (h : ∀ q, some q ∈ before → q.2.length ≤ n) : ∀ q, some q ∈ ringRow m ring P f at_ before → q.2.length ≤ n + 1 := by
  intro q hq
  unfold ringRow at hq
  rw [List.mem_map] at hq
  obtain ⟨lab, _, hq⟩ := hq
  exact ringStep_le (os := before.zipIdx) (fun o ho q hq => h q (by rw [← hq]; exact List.fst_mem_of_mem_zipIdx (x := (o.1, o.2)) ho)) q hq
theorem d_Ring_row (F : Nat → FS) (h6 : F 6 = S_better) (h17 : F 17 = S_Ring_charge) : Does F 9 3 b_Ring_row S_Ring_row := by
  rintro ds u K ⟨m, ring, P, f, at_, before, rfl, ⟨mo, hr1, hr10, hP, hPr⟩, hat, hq, k⟩
  refine ⟨rfl, ?_⟩
  have k := keepK k
  have hn8 := mo.n
  have hp1 : P[at_]? = some (P.getD at_ []) := by
    rw [List.getD_eq_getElem?_getD, List.getElem?_eq_getElem (by omega)]
    rfl
  have hpl := hPr _ (List.mem_of_getElem? hp1)
  simp only [st0]
  unfold b_Ring_row
  walk_at "go"
  intro p hp
  walk_at "go"
  refine ⟨by omega, ?_⟩
  refine for_I (fun i l2 u2 => u2 = (p, .lst ((((List.range m.n).take i).map fun lab => before.zipIdx.foldl (ringStep m ring P f at_ lab) none).map oD)) :: u ∧ ∃ a b c d e, l2 = [some (rgD m (liD ring) (pD P) (oiD f)), some (.int (at_ : Nat)), some (rowD before), some (.adr p), a, b, c, d, e]) ⟨rfl, _, _, _, _, _, rfl⟩ ?_ ?_
  · rintro i x l2 u2 hx ⟨rfl, a, b, c, d, e, rfl⟩
    obtain ⟨rfl, hi⟩ := range_get hx
    rw [map_take hx]
    have hacc : (((List.range m.n).take x).map fun lab => before.zipIdx.foldl (ringStep m ring P f at_ lab) none).length ≤ 8 := by
      rw [List.length_map, List.length_take, List.length_range]
      omega
    generalize (((List.range m.n).take x).map fun lab => before.zipIdx.foldl (ringStep m ring P f at_ lab) none) = acc at hacc ⊢
    have e2 : atI ((P.getD at_ []).map Dt.int) (x : Int) = some (.int ((P.getD at_ []).getD x 0)) := at_i (by omega)
    walk_at "go"
    refine for_f (step := ringStep m ring P f at_ x) (b0 := none) (fun best l2 u2 => u2 = (p, .lst (acc.map oD)) :: u ∧ ∃ c d e, l2 = [some (rgD m (liD ring) (pD P) (oiD f)), some (.int (at_ : Nat)), some (rowD before), some (.adr p), some (.int (x : Nat)), some (oD best), c, d, e]) ⟨rfl, _, _, _, rfl⟩ ?_ ?_
    · rintro i2 ⟨o, ix⟩ l3 u3 hy ⟨rfl, c, d, e, rfl⟩
      generalize (before.zipIdx.take i2).foldl (ringStep m ring P f at_ x) none = best
      have hmem := List.fst_mem_of_mem_zipIdx (List.mem_of_getElem? hy)
      unfold ringStep
      cases o with
      | none => walk_at "go"
      | some q =>
        have hql := hq q hmem
        walk_at "go"
        refine ⟨_, rfl, _, at_P hp1, ?_⟩
        walk_at "go"
        refine ⟨_, e2, ?_⟩
        walk_at "go"
        rw [h17]
        refine ⟨m, ring, pD P, oiD f, f, q.1 + (P.getD at_ []).getD x 0, at_, ix, x, rfl, rfl, hat, ?_⟩
        generalize chargeR m ring f (q.1 + (P.getD at_ []).getD x 0) at_ (ix : Int) (x : Int) = co
        cases co with
        | none => walk_at "go"
        | some v =>
          walk_at "go"
          refine ⟨by simp only [LIM, List.length_append, List.length_map, List.length_cons, List.length_nil]; omega, ?_⟩
          rw [h6]
          refine ⟨best, some (v, q.2 ++ [(x : Int)]), by simp only [oD_s, prD, List.map_append, List.map_cons, List.map_nil], ?_⟩
          walk_at "go"
    · rintro l4 u4 ⟨rfl, c, d, e, rfl⟩
      walk_at "go"
      exact ⟨by simp only [LIM, List.length_map]; omega, by simp⟩
  · rintro l4 u4 ⟨rfl, a, b, c, d, e, rfl⟩
    rw [List.take_length]
    walk_at "go"
    rw [fz2_hd (no_row _)]
    exact k
theorem d_Ring_closed (F : Nat → FS) (h6 : F 6 = S_better) (h17 : F 17 = S_Ring_charge) : Does F 7 3 b_Ring_closed S_Ring_closed := by
  rintro ds u K ⟨m, ring, P, f, first, last, rfl, ⟨mo, hr1, hr10, hP, hPr⟩, hf, k⟩
  refine ⟨rfl, ?_⟩
  have k := keepK k
  have hp1 : P[0]? = some (P.getD 0 []) := by
    rw [List.getD_eq_getElem?_getD, List.getElem?_eq_getElem (by omega)]
    rfl
  have hpl := hPr _ (List.mem_of_getElem? hp1)
  have e2 : atI ((P.getD 0 []).map Dt.int) (first : Int) = some (.int ((P.getD 0 []).getD first 0)) := at_i (by omega)
  have hp2 : atI (P.map fun r => Dt.lst (r.map .int)) 0 = some (.lst ((P.getD 0 []).map .int)) := at_P (i := 0) hp1
  simp only [st0]
  unfold b_Ring_closed
  walk_at "go"
  refine for_f (step := closeStep m ring P f first) (b0 := none) (fun best l2 u2 => u2 = u ∧ ∃ c d e, l2 = [some (rgD m (liD ring) (pD P) (oiD f)), some (.int (first : Nat)), some (rowD last), some (oD best), c, d, e]) ⟨rfl, _, _, _, rfl⟩ ?_ ?_
  · rintro i2 ⟨o, ix⟩ l3 u3 hy ⟨rfl, c, d, e, rfl⟩
    generalize (last.zipIdx.take i2).foldl (closeStep m ring P f first) none = best
    unfold closeStep
    cases o with
    | none => walk_at "go"
    | some q =>
      walk_at "go"
      refine ⟨_, rfl, _, hp2, ?_⟩
      walk_at "go"
      refine ⟨_, e2, ?_⟩
      walk_at "go"
      rw [h17]
      refine ⟨m, ring, pD P, oiD f, f, q.1 + (P.getD 0 []).getD first 0, 0, ix, first, rfl, rfl, by omega, ?_⟩
      generalize chargeR m ring f (q.1 + (P.getD 0 []).getD first 0) 0 (ix : Int) (first : Int) = co
      cases co with
      | none => walk_at "go"
      | some v =>
        walk_at "go"
        rw [h6]
        refine ⟨best, some (v, q.2), rfl, ?_⟩
        walk_at "go"
  · rintro l4 u4 ⟨rfl, c, d, e, rfl⟩
    walk_at "go"
    exact k
end Ob
/-! part W3b -/
namespace Ob
open PySem L2
local macro_rules | `(tactic| walk_at "wp") => `(tactic| simp only [q_wpE_c, q_wpE_slot, q_wpE_bin, q_wpE_neg, q_wpE_not, q_wpE_or, q_wpE_and, q_wpE_cmp, q_wpE_chain, q_wpE_ife, q_wpE_tup, q_wpE_lst, q_wpE_ix, q_wpE_cut, q_att, blD_eq, mvD_eq, ndD_eq, sq_pD, sq_lm, is_non, is_bl, is_int, is_lst, eq_nn, in_bl, in_lst, decide_true, am_1, am_2, am_3, ar_7, ar_2, ar_8, ar_9, ag_7, ag_2, ag_10, ag_8, ag_9, ck_n, ck_n1, cl_i, cl_i1, cl_n1, ci_t, ci_l, cn_t, cn_l, q_wpE_len, q_wpE_list, q_wpE_tuple, q_wpE_sum, q_wpE_min1, q_wpE_min2, q_wpE_int, q_wpE_all, q_wpE_sset, q_wpE_mdict, q_wpE_isi, q_wpE_pop, q_wpE_app, q_wpE_exd, q_wpE_call, q_wpE_meth, q_wpE_new, q_wpE_fz, q_wpE_bor, q_wpA_nil, q_wpA_cons, q_wpA_star, q_wpT_tv, q_wpT_tnot, q_wpT_tand, q_wpT_tor, q_wpT_noE, q_wpO_noE, q_wpO_tv, q_wpI_iSeq, q_wpI_iRan, q_wpI_iRan2, q_wpI_iEnum, q_wpI_iZip, q_wpI_iRev, e_lc, wpG, wpG.wpGs, wipeD, List.map_cons, List.map_nil, List.append_nil, List.cons_append, List.nil_append, List.replicate, List.length_cons, List.length_nil, List.length_map, Nat.reduceSub, Nat.reduceAdd, tN, enum_map,
  List.set_cons_zero, List.set_cons_succ, List.getElem?_cons_zero, List.getElem?_cons_succ, Option.some.injEq, Dt.int.injEq, Dt.bl.injEq, Dt.lst.injEq, Dt.tup.injEq, Dt.ins.injEq, Dt.adr.injEq, Cell.lst.injEq, Cell.ins.injEq, exists_eq_right, exists_eq_right', Prod.mk.injEq, exists_eq_left', exists_eq_left, exists_and_left, exists_eq', exists_eq, true_and, and_true, List.cons.injEq, and_self, and_assoc,
  bk_addi, bk_sub, bk_mul, bk_mod, bk_div, bk_pow, bk_cat, bk_rep, nk_f, nk_t, sq_lst, sq_tup, sq_pr, ls_lst, fz_lst, fz_tup, ts_non, ts_bl, ts_pr, cm_lt, cm_le, cm_gt, cm_ge, cm_eq, cm_ne, cm_eqb, cm_neb, cm_is, cm_isn, in_non, in_int, in_pr, in_o, in_oi, gt_hd, pt_hd, dl_hd,
  at_0, at_1, at_2, at_3, at_4, oD_n, oD_s, oi_n, oi_s, Option.isNone_none, Option.isNone_some, lim_0, lim_1, lim_2, lim_3, lim_4, lim_5, lim_6, lim_7, Int.natCast_nonneg, Int.ofNat_le, Bool.not_true, Bool.true_or, Bool.false_or, Bool.or_true, Bool.or_false, Bool.true_and, Bool.false_and, Bool.and_true, Bool.and_false, List.contains_cons, List.contains_nil, Nat.reduceBEq, Bool.not_false, Bool.true_eq_false, Bool.false_eq_true, false_imp_iff, true_imp_iff, reduceCtorEq, forall_const, Nat.reduceLT, Nat.reduceLeDiff, eq_self, forall_eq', forall_eq])
local macro_rules | `(tactic| walk_at "go") => `(tactic| (try dsimp only); (try walk_at "wp"); repeat (first | refine seq_i ?_ | (refine asg_i ?_; try walk_at "wp") | (refine drop_i ?_; try walk_at "wp") | (refine ret_i ?_; try walk_at "wp") | (refine forr_i ?_; try walk_at "wp") | (refine iff_i ?_; try walk_at "wp") | (refine seti_i ?_; try walk_at "wp") | (refine augi_i ?_; try walk_at "wp") | (refine seta_i ?_; try walk_at "wp") | (refine skip_i ?_; try walk_at "wp")))
/-! Walks: rows of rings, the best ring. -/
structure RgI (m : Mac) (i : Nat) (rows : List Row) : Prop where
  len : rows.length = i + 1
  row : ∀ r ∈ rows, r.length = m.n
  lab : ∀ r ∈ rows, ∀ q, some q ∈ r → q.2.length ≤ i + 1
theorem rg_step {m : Mac} {ring : List Int} {P : List (List Int)} {f : Option Int} {i : Nat} {rows : List Row} (h : RgI m i rows) : RgI m (i + 1) (rows ++ [ringRow m ring P f (i + 1) (rows.getLastD [])]) := by
  have hm : rows.getLastD [] ∈ rows := by
    have hne : rows ≠ [] := by
      intro e
      have := h.len
      rw [e] at this
      simp at this
    rw [List.getLastD_eq_getLast?, List.getLast?_eq_getLast hne]
    exact List.getLast_mem hne
  refine ⟨by rw [List.length_append, h.len]; rfl, ?_, ?_⟩
  · intro r hr
    rw [List.mem_append, List.mem_singleton] at hr
    rcases hr with hr | hr
    · exact h.row r hr
    · rw [hr]
      unfold ringRow
      rw [List.length_map, List.length_range]
  · intro r hr q hq
    rw [List.mem_append, List.mem_singleton] at hr
    rcases hr with hr | hr
    · have := h.lab r hr q hq
      omega
    · rw [hr] at hq
      exact ringRow_le (h.lab _ hm) q hq
theorem rg_zero (m : Mac) (first : Nat) : RgI m 0 [ringRow0 m.n first] := by
  refine ⟨rfl, ?_, ?_⟩
  · intro r hr
    rw [List.mem_singleton] at hr
    rw [hr]
    unfold ringRow0
    rw [List.length_map, List.length_range]
  · intro r hr q hq
    rw [List.mem_singleton] at hr
    rw [hr] at hq
    unfold ringRow0 at hq
    rw [List.mem_map] at hq
    obtain ⟨lab, _, hq⟩ := hq
    split at hq
    · cases hq
      simp
    · cases hq
theorem rg_all (m : Mac) (ring : List Int) (P : List (List Int)) (f : Option Int) (first : Nat) : ∀ k, RgI m k ((List.range k).foldl (fun rows i => rows ++ [ringRow m ring P f (i + 1) (rows.getLastD [])]) [ringRow0 m.n first])
  | 0 => rg_zero m first
  | k + 1 => by
    rw [List.range_succ, List.foldl_append]
    exact rg_step (rg_all m ring P f first k)
theorem take_range (k i : Nat) (h : i ≤ k) : (List.range k).take i = List.range i := by
  rw [List.take_range, Nat.min_eq_left h]
theorem d_Ring_rows (F : Nat → FS) (h19 : F 19 = S_Ring_row) : Does F 6 2 b_Ring_rows S_Ring_rows := by
  rintro ds u K ⟨m, ring, P, f, first, rfl, hpo, hf, k⟩
  refine ⟨rfl, ?_⟩
  have k := keepK k
  obtain ⟨mo, hr1, hr10, hP, hPr⟩ := hpo
  have hn8 := mo.n
  simp only [st0]
  unfold b_Ring_rows
  walk_at "go"
  refine ⟨by omega, ?_⟩
  refine lc_m (fun (lab : Nat) => oD (if (lab : Int) = (first : Int) then some (0, [(first : Int)]) else none)) (by rw [List.length_range]; simp only [LIM]; omega) (fun lab hl J hj => ?_) ?_
  · walk_at "go"
    refine ⟨fun h => ?_, fun h => ?_⟩
    · rw [if_pos (by simpa using h)] at hj
      exact hj
    · rw [if_neg (by simpa using h)] at hj
      exact hj
  have e0 : ((List.range m.n).map fun (lab : Nat) => oD (if (lab : Int) = (first : Int) then some (0, [(first : Int)]) else none)) = (ringRow0 m.n first).map oD := by
    unfold ringRow0
    rw [List.map_map]
    rfl
  rw [e0]
  walk_at "go"
  intro p hp
  walk_at "go"
  refine ⟨by omega, by omega, by omega, ?_⟩
  have e1 : ((ring.length : Int) - 1).toNat = ring.length - 1 := by omega
  rw [e1]
  refine for_I (xs := List.range (ring.length - 1)) (enc := fun k => .int (1 + (k : Int))) (fun i l2 u2 => i ≤ ring.length - 1 ∧ u2 = (p, .lst (((List.range i).foldl (fun rows i => rows ++ [ringRow m ring P f (i + 1) (rows.getLastD [])]) [ringRow0 m.n first]).map rowD)) :: u ∧ ∃ a b, l2 = [some (rgD m (liD ring) (pD P) (oiD f)), some (.int (first : Nat)), some (rowD (ringRow0 m.n first)), some (.adr p), a, b]) ⟨by omega, rfl, _, _, rfl⟩ ?_ ?_
  · rintro i x l2 u2 hx ⟨hile, rfl, a, b, rfl⟩
    obtain ⟨rfl, hi⟩ := range_get hx
    have hI := rg_all m ring P f first x
    rw [List.range_succ, List.foldl_append]
    generalize (List.range x).foldl (fun rows i => rows ++ [ringRow m ring P f (i + 1) (rows.getLastD [])]) [ringRow0 m.n first] = rows at hI ⊢
    have hne : rows ≠ [] := by
      intro e
      have := hI.len
      rw [e] at this
      simp at this
    have hlD : rows.getLastD [] = rows.getLast hne := by
      rw [List.getLastD_eq_getLast?, List.getLast?_eq_getLast hne]
      rfl
    have hlast : (rows.map rowD).getLast? = some (rowD (rows.getLastD [])) := by
      rw [List.getLast?_map, List.getLast?_eq_getLast hne, hlD]
      rfl
    have hmem : rows.getLastD [] ∈ rows := by
      rw [hlD]
      exact List.getLast_mem hne
    walk_at "go"
    refine ⟨_, rfl, ?_⟩
    rw [sq_adr (gt_hd _ _)]
    walk_at "go"
    refine ⟨_, at_m1 hlast, ?_⟩
    rw [h19, show (1 : Int) + (x : Int) = ((x + 1 : Nat) : Int) by omega]
    refine ⟨m, ring, P, f, x + 1, rows.getLastD [], rfl, ⟨mo, hr1, hr10, hP, hPr⟩, by omega, fun q hq => by have := hI.lab _ hmem q hq; omega, ?_⟩
    walk_at "go"
    refine ⟨by rw [hI.len]; simp only [LIM]; omega, by omega, ?_⟩
    simp
  · rintro l4 u4 ⟨hile, rfl, a, b, rfl⟩
    rw [List.length_range] at hile ⊢
    walk_at "go"
    rw [fz2_hd (no_map _ (fun _ => rfl) _)]
    exact k
theorem d_best_ring (F : Nat → FS) (h5 : F 5 = S_Found_init) (h6 : F 6 = S_better) (h11 : F 11 = S_cost_of) (h16 : F 16 = S_Ring_init) (h18 : F 18 = S_Ring_rows) (h20 : F 20 = S_Ring_closed) : Does F 11 4 b_best_ring S_best_ring := by
  rintro ds u K ⟨m, ring, P, f, rfl, hpo, k⟩
  refine ⟨rfl, ?_⟩
  obtain ⟨mo, hr1, hr10, hP, hPr⟩ := hpo
  have hn8 := mo.n
  unfold RndP bestRingF at k
  simp only at k
  simp only [st0]
  unfold b_best_ring
  walk_at "go"
  intro pk hpk
  rw [h16]
  refine ⟨pk, m, liD ring, pD P, oiD f, u, rfl, rfl, mo, ?_⟩
  have erk : Dt.ins 3 [(7, macD m), (2, .keys m.mv), (10, liD ring), (8, pD P), (9, oiD f)] = rgD m (liD ring) (pD P) (oiD f) := rfl
  walk_at "go"
  rw [erk]
  walk_at "go"
  intro p hp
  walk_at "go"
  refine ⟨by omega, ?_⟩
  have hI := fun first => rg_all m ring P f first (ring.length - 1)
  have hrr : ∀ first, ringRows m ring P f first = (List.range (ring.length - 1)).foldl (fun rows i => rows ++ [ringRow m ring P f (i + 1) (rows.getLastD [])]) [ringRow0 m.n first] := fun _ => rfl
  refine for_I (fun i l2 u2 => ∃ rss : List (List Addr), rss.length = i ∧ get u2 p = some (.lst (rss.map fun (as : List Addr) => Dt.lst (as.map .adr))) ∧
      (∀ (j : Nat) (as : List Addr), rss[j]? = some as → as.length = (ringRows m ring P f j).length ∧ ∀ (j2 : Nat) (q : Addr) (y : Row), as[j2]? = some q → (ringRows m ring P f j)[j2]? = some y → q ≠ p ∧ get u2 q = some (.lst ((y.map costOf).map oiD))) ∧
      (∀ q c, get u q = some c → get u2 q = some c) ∧ ∃ a b c d, l2 = [some (macD m), some (liD ring), some (pD P), some (oiD f), some (rgD m (liD ring) (pD P) (oiD f)), some (.adr p), some (oD (((List.range m.n).take i).foldl (fun b first => better b (closedF m ring P f first ((ringRows m ring P f first).getLastD []))) none)), a, b, c, d])
    ⟨[], rfl, gt_hd _ _, by simp, fun q c h => by rw [gt_tl _ (ne_fresh h hp)]; exact h, _, _, _, _, rfl⟩ ?_ ?_
  · rintro i x l2 u2 hx ⟨rss, hl, hgp, hrss, hold, a, b, c, d, rfl⟩
    obtain ⟨rfl, hi⟩ := range_get hx
    have e0 : ((List.range m.n).take (x + 1)).foldl (fun b first => better b (closedF m ring P f first ((ringRows m ring P f first).getLastD []))) none = better (((List.range m.n).take x).foldl (fun b first => better b (closedF m ring P f first ((ringRows m ring P f first).getLastD []))) none) (closedF m ring P f x ((ringRows m ring P f x).getLastD [])) := by
      rw [List.take_add_one, hx, List.foldl_append]
      rfl
    rw [e0]
    generalize ((List.range m.n).take x).foldl (fun b first => better b (closedF m ring P f first ((ringRows m ring P f first).getLastD []))) none = best
    have hIx := hI x
    rw [← hrr] at hIx
    walk_at "go"
    refine ⟨_, rfl, ?_⟩
    rw [h18]
    refine ⟨m, ring, P, f, x, rfl, ⟨mo, hr1, hr10, hP, hPr⟩, hi, ?_⟩
    have hrx : ∀ (j2 : Nat) (y : Row), (ringRows m ring P f x)[j2]? = some y → y.length = m.n := fun j2 y hy => hIx.row _ (List.mem_of_getElem? hy)
    generalize hrows : ringRows m ring P f x = rows at hIx hrx ⊢
    walk_at "go"
    refine ⟨_, hgp, ?_⟩
    refine lc_I (fun i acc u3 => ∃ rs : List Addr, acc = rs.map .adr ∧ rs.length = i ∧ (∀ (j : Nat) (q : Addr) (r : Row), rs[j]? = some q → rows[j]? = some r → q ≠ p ∧ get u3 q = some (.lst ((r.map costOf).map oiD))) ∧ ∀ q c, get u2 q = some c → get u3 q = some c) ⟨[], rfl, rfl, by simp, fun _ _ h => h⟩ (by rw [hIx.len]; simp only [LIM]; omega) ?_ ?_
    · rintro i r acc u3 hr ⟨rs, rfl, hrl, hrs, hold3⟩
      have hr8 := hrx _ _ hr
      walk_at "go"
      refine lc_m (fun o => oiD (costOf o)) (by simp only [LIM]; omega) (fun o ho J hj => ?_) ?_
      · walk_at "go"
        rw [h11]
        exact ⟨o, rfl, rfl, hj⟩
      walk_at "go"
      intro q hq
      refine ⟨rs ++ [q], by simp, by simp [hrl], ?_, ?_⟩
      · intro j p' r' hj hr'
        by_cases hjl : j < rs.length
        · rw [List.getElem?_append_left hjl] at hj
          have h1 := hrs j p' r' hj hr'
          rw [gt_tl _ (ne_fresh h1.2 hq)]
          exact h1
        · rw [List.getElem?_append_right (by omega)] at hj
          have hj0 : j - rs.length = 0 := by
            cases h3 : j - rs.length with
            | zero => rfl
            | succ n => rw [h3] at hj; cases hj
          rw [hj0] at hj
          cases hj
          have hji : j = i := by omega
          subst hji
          rw [hr] at hr'
          cases hr'
          rw [gt_hd, List.map_map]
          exact ⟨ne_fresh (hold3 _ _ hgp) hq, rfl⟩
      · intro p' c' h'
        have h1 := hold3 p' c' h'
        rw [gt_tl _ (ne_fresh h1 hq)]
        exact h1
    · rintro acc u3 ⟨rs, rfl, hrl, hrs, hold3⟩
      have hne : rows ≠ [] := by
        intro e
        have := hIx.len
        rw [e] at this
        simp at this
      have hlD : rows.getLastD [] = rows.getLast hne := by
        rw [List.getLastD_eq_getLast?, List.getLast?_eq_getLast hne]
        rfl
      have hlast : (rows.map rowD).getLast? = some (rowD (rows.getLastD [])) := by
        rw [List.getLast?_map, List.getLast?_eq_getLast hne, hlD]
        rfl
      have hgp3 := hold3 _ _ hgp
      walk_at "go"
      refine ⟨_, hgp3, by simp only [LIM, List.length_map]; omega, ?_⟩
      walk_at "go"
      refine ⟨_, rfl, _, at_m1 hlast, ?_⟩
      rw [h20]
      refine ⟨m, ring, P, f, x, rows.getLastD [], rfl, ⟨mo, hr1, hr10, hP, hPr⟩, hi, ?_⟩
      walk_at "go"
      rw [h6]
      refine ⟨best, closedF m ring P f x (rows.getLastD []), rfl, ?_⟩
      walk_at "go"
      refine ⟨rss ++ [rs], by simp [hl], ?_, ?_, ?_⟩
      · rw [get_put hgp3]
        simp
      · intro j as hj
        by_cases hjl : j < rss.length
        · rw [List.getElem?_append_left hjl] at hj
          obtain ⟨h1, h2⟩ := hrss j as hj
          refine ⟨h1, fun j2 q y hq hy => ?_⟩
          obtain ⟨h3, h4⟩ := h2 j2 q y hq hy
          refine ⟨h3, ?_⟩
          rw [get_put_ne (Ne.symm h3)]
          exact hold3 _ _ h4
        · rw [List.getElem?_append_right (by omega)] at hj
          have hj0 : j - rss.length = 0 := by
            cases h3 : j - rss.length with
            | zero => rfl
            | succ n => rw [h3] at hj; cases hj
          rw [hj0] at hj
          cases hj
          have hji : j = x := by omega
          subst hji
          rw [hrows]
          refine ⟨hrl, fun j2 q y hq hy => ?_⟩
          obtain ⟨h3, h4⟩ := hrs j2 q y hq hy
          refine ⟨h3, ?_⟩
          rw [get_put_ne (Ne.symm h3)]
          exact h4
      · intro q c h
        have h1 := hold3 _ _ (hold _ _ h)
        have h2 : q ≠ p := fun e => hp (by rw [← e]; exact get_adr h)
        rw [get_put_ne (Ne.symm h2)]
        exact h1
  · rintro l4 u4 ⟨rss, hl, hgp, hrss, hold, a, b, c, d, rfl⟩
    rw [List.take_length]
    rw [List.length_range] at hl
    generalize (List.range m.n).foldl (fun b first => better b (closedF m ring P f first ((ringRows m ring P f first).getLastD []))) none = found at k ⊢
    have fin : ∀ (kind : Dt) (pl pe : Addr) (v : Addr), v ∉ adrs u4 → pl ≠ v → pl ∉ adrs u4 → pe ≠ v → pe ≠ pl → pe ∉ adrs u4 →
        ∃ u2 : Mu, u2.Sublist (del ((pe, .lst []) :: (pl, .lst ((labOf found).map .int)) :: (v, .ins 1 [(4, kind), (5, oiD (costOf found)), (1, .adr pl), (6, .lst (rss.map fun (as : List Addr) => Dt.lst (as.map .adr))), (3, .adr pe)]) :: u4) v) ∧ K (.ins 1 [(4, kind), (5, oiD (costOf found)), (1, .adr pl), (6, .lst (rss.map fun (as : List Addr) => Dt.lst (as.map .adr))), (3, .adr pe)]) u2 := by
      intro kind pl pe v hv n1 hpl n2 n3 hpe
      rw [dl_tl _ n2, dl_tl _ n1, dl_hd]
      refine keepK (k kind rss pl pe _ ?_ ?_ ?_ ?_)
      · rw [List.length_map, List.length_range]
        exact hl
      · intro j as r hj hr'
        rw [List.getElem?_map] at hr'
        cases h3 : (List.range m.n)[j]? with
        | none =>
          rw [h3] at hr'
          cases hr'
        | some r0 =>
          obtain ⟨e9, _⟩ := range_get h3
          subst e9
          rw [h3] at hr'
          cases hr'
          obtain ⟨h1, h2⟩ := hrss r0 as hj
          refine ⟨by rw [List.length_map]; exact h1, fun j2 q y hq hy => ?_⟩
          rw [List.getElem?_map] at hy
          cases h4 : (ringRows m ring P f r0)[j2]? with
          | none =>
            rw [h4] at hy
            cases hy
          | some y0 =>
            rw [h4] at hy
            cases hy
            have h5 := (h2 j2 q y0 hq h4).2
            rw [gt_tl _ (ne_fresh h5 hpe), gt_tl _ (ne_fresh h5 hpl)]
            exact h5
      · rw [gt_tl _ n3, gt_hd]
        cases found <;> rfl
      · intro p' c' h'
        have h1 := hold p' c' h'
        rw [gt_tl _ (ne_fresh h1 hpe), gt_tl _ (ne_fresh h1 hpl)]
        exact h1
    cases found with
    | none =>
      walk_at "go"
      intro v hv
      rw [h5]
      refine ⟨v, .str "none", .non, .adr p, [], rss.map fun (as : List Addr) => Dt.lst (as.map .adr), [], u4, rfl, rfl, sq_adr hgp, ?_, fun pl pe n1 hpl n2 n3 hpe => ?_⟩
      · intro q hq
        cases hq
        exact Ne.symm (ne_fresh hgp hv)
      refine ⟨rfl, _, gt_tl _ n2 |>.trans (gt_tl _ n1 |>.trans (gt_hd _ _)), ?_⟩
      exact fin (.str "none") pl pe v hv n1 hpl n2 n3 hpe
    | some b =>
      walk_at "go"
      intro v hv
      rw [h5]
      refine ⟨v, .str "best", .int b.1, .adr p, b.2.map .int, rss.map fun (as : List Addr) => Dt.lst (as.map .adr), [], u4, rfl, rfl, sq_adr hgp, ?_, fun pl pe n1 hpl n2 n3 hpe => ?_⟩
      · intro q hq
        cases hq
        exact Ne.symm (ne_fresh hgp hv)
      refine ⟨rfl, _, gt_tl _ n2 |>.trans (gt_tl _ n1 |>.trans (gt_hd _ _)), ?_⟩
      exact fin (.str "best") pl pe v hv n1 hpl n2 n3 hpe
end Ob
/-! part W7b -/
namespace Ob
open PySem L2
local macro_rules | `(tactic| walk_at "wp") => `(tactic| simp only [q_wpE_c, q_wpE_slot, q_wpE_bin, q_wpE_neg, q_wpE_not, q_wpE_or, q_wpE_and, q_wpE_cmp, q_wpE_chain, q_wpE_ife, q_wpE_tup, q_wpE_lst, q_wpE_ix, q_wpE_cut, q_att, blD_eq, mvD_eq, ndD_eq, sq_pD, sq_lm, is_non, is_bl, is_int, is_lst, eq_nn, in_bl, in_lst, decide_true, am_1, am_2, am_3, ar_7, ar_2, ar_8, ar_9, ag_7, ag_2, ag_10, ag_8, ag_9, ck_n, ck_n1, cl_i, cl_i1, cl_n1, ci_t, ci_l, cn_t, cn_l, q_wpE_len, q_wpE_list, q_wpE_tuple, q_wpE_sum, q_wpE_min1, q_wpE_min2, q_wpE_int, q_wpE_all, q_wpE_sset, q_wpE_mdict, q_wpE_isi, q_wpE_pop, q_wpE_app, q_wpE_exd, q_wpE_call, q_wpE_meth, q_wpE_new, q_wpE_fz, q_wpE_bor, q_wpA_nil, q_wpA_cons, q_wpA_star, q_wpT_tv, q_wpT_tnot, q_wpT_tand, q_wpT_tor, q_wpT_noE, q_wpO_noE, q_wpO_tv, q_wpI_iSeq, q_wpI_iRan, q_wpI_iRan2, q_wpI_iEnum, q_wpI_iZip, q_wpI_iRev, e_lc, wpG, wpG.wpGs, wipeD, List.map_cons, List.map_nil, List.append_nil, List.cons_append, List.nil_append, List.replicate, List.length_cons, List.length_nil, List.length_map, Nat.reduceSub, Nat.reduceAdd, tN, enum_map,
  List.set_cons_zero, List.set_cons_succ, List.getElem?_cons_zero, List.getElem?_cons_succ, Option.some.injEq, Dt.int.injEq, Dt.bl.injEq, Dt.lst.injEq, Dt.tup.injEq, Dt.ins.injEq, Dt.adr.injEq, Cell.lst.injEq, Cell.ins.injEq, exists_eq_right, exists_eq_right', Prod.mk.injEq, exists_eq_left', exists_eq_left, exists_and_left, exists_eq', exists_eq, true_and, and_true, List.cons.injEq, and_self, and_assoc,
  bk_addi, bk_sub, bk_mul, bk_mod, bk_div, bk_pow, bk_cat, bk_rep, nk_f, nk_t, sq_lst, sq_tup, sq_pr, ls_lst, fz_lst, fz_tup, ts_non, ts_bl, ts_pr, cm_lt, cm_le, cm_gt, cm_ge, cm_eq, cm_ne, cm_eqb, cm_neb, cm_is, cm_isn, in_non, in_int, in_pr, in_o, in_oi, gt_hd, pt_hd, dl_hd,
  at_0, at_1, at_2, at_3, at_4, oD_n, oD_s, oi_n, oi_s, Option.isNone_none, Option.isNone_some, lim_0, lim_1, lim_2, lim_3, lim_4, lim_5, lim_6, lim_7, Int.natCast_nonneg, Int.ofNat_le, Bool.not_true, Bool.true_or, Bool.false_or, Bool.or_true, Bool.or_false, Bool.true_and, Bool.false_and, Bool.and_true, Bool.and_false, List.contains_cons, List.contains_nil, Nat.reduceBEq, Bool.not_false, Bool.true_eq_false, Bool.false_eq_true, false_imp_iff, true_imp_iff, reduceCtorEq, forall_const, Nat.reduceLT, Nat.reduceLeDiff, eq_self, forall_eq', forall_eq])
local macro_rules | `(tactic| walk_at "go") => `(tactic| (try dsimp only); (try walk_at "wp"); repeat (first | refine seq_i ?_ | (refine asg_i ?_; try walk_at "wp") | (refine drop_i ?_; try walk_at "wp") | (refine ret_i ?_; try walk_at "wp") | (refine forr_i ?_; try walk_at "wp") | (refine iff_i ?_; try walk_at "wp") | (refine seti_i ?_; try walk_at "wp") | (refine augi_i ?_; try walk_at "wp") | (refine seta_i ?_; try walk_at "wp") | (refine skip_i ?_; try walk_at "wp")))
/-! Walks: what is told of rings. -/
structure SmallR (x : Rnd) : Prop where
  num : x.numbers.length ≤ 8
  rows : ∀ r ∈ x.numbers, r.length ≤ 10
  row : ∀ r ∈ x.numbers, ∀ y ∈ r, y.length ≤ 8
  lab : x.labels.length ≤ 100
theorem ring_small (m : Mac) (ring : List Int) (P : List (List Int)) (f : Option Int) (h : PrOk m ring P) : SmallR (bestRingF m ring P f) := by
  obtain ⟨mo, hr1, hr10, hP, hPr⟩ := h
  have hn8 := mo.n
  have hI := fun first => rg_all m ring P f first (ring.length - 1)
  have hrr : ∀ first, ringRows m ring P f first = (List.range (ring.length - 1)).foldl (fun rows i => rows ++ [ringRow m ring P f (i + 1) (rows.getLastD [])]) [ringRow0 m.n first] := fun _ => rfl
  refine ⟨?_, ?_, ?_, ?_⟩
  · show ((List.range m.n).map fun first => (ringRows m ring P f first).map fun r => r.map costOf).length ≤ 8
    rw [List.length_map, List.length_range]
    exact hn8
  · intro r hr
    have hr2 : r ∈ (List.range m.n).map fun first => (ringRows m ring P f first).map fun r => r.map costOf := hr
    rw [List.mem_map] at hr2
    obtain ⟨first, _, rfl⟩ := hr2
    rw [List.length_map, hrr, (hI first).len]
    omega
  · intro r hr y hy
    have hr2 : r ∈ (List.range m.n).map fun first => (ringRows m ring P f first).map fun r => r.map costOf := hr
    rw [List.mem_map] at hr2
    obtain ⟨first, _, rfl⟩ := hr2
    rw [List.mem_map] at hy
    obtain ⟨z, hz, rfl⟩ := hy
    rw [hrr] at hz
    rw [List.length_map, (hI first).row z hz]
    exact hn8
  · show (match (List.range m.n).foldl (fun b first => better b (closedF m ring P f first ((ringRows m ring P f first).getLastD []))) none with | none => ([] : List Int) | some p => p.2).length ≤ 100
    have hlastrow : ∀ first q, some q ∈ (ringRows m ring P f first).getLastD [] → q.2.length ≤ 10 := by
      intro first q hq
      rw [hrr] at hq
      rw [List.getLastD_eq_getLast?] at hq
      cases e : ((List.range (ring.length - 1)).foldl (fun rows i => rows ++ [ringRow m ring P f (i + 1) (rows.getLastD [])]) [ringRow0 m.n first]).getLast? with
      | none =>
        rw [e] at hq
        cases hq
      | some r =>
        rw [e] at hq
        have := (hI first).lab r (List.mem_of_getLast? e) q hq
        omega
    have hclosed : ∀ first q, closedF m ring P f first ((ringRows m ring P f first).getLastD []) = some q → q.2.length ≤ 10 := by
      intro first
      unfold closedF
      refine fold_mem (P := fun b : Option Pr => ∀ q, b = some q → q.2.length ≤ 10) _ none (by simp) (fun b o ho hb => ?_)
      unfold closeStep
      split
      · exact hb
      · rename_i q hq
        split
        · exact hb
        · exact better_le hb (by
            intro q2 hq2
            cases hq2
            exact hlastrow first q (by rw [← hq]; exact List.fst_mem_of_mem_zipIdx (x := (o.1, o.2)) ho))
    have h9 : ∀ q, (List.range m.n).foldl (fun b first => better b (closedF m ring P f first ((ringRows m ring P f first).getLastD []))) none = some q → q.2.length ≤ 10 :=
      fold_mem (P := fun b : Option Pr => ∀ q, b = some q → q.2.length ≤ 10) _ none (by simp) (fun b o ho hb => better_le hb (hclosed o))
    cases e : (List.range m.n).foldl (fun b first => better b (closedF m ring P f first ((ringRows m ring P f first).getLastD []))) none with
    | none => simp
    | some q =>
      have := h9 q e
      simp only
      omega
theorem d_ring_told (F : Nat → FS) (h4 : F 4 = S_ring_wishes) (h21 : F 21 = S_best_ring) : Does F 8 4 b_law_ring_told S_lring_told := by
  rintro ds u K ⟨m, ring, P, f, rfl, rfl, hpo, k⟩
  refine ⟨rfl, ?_⟩
  have hsm := ring_small m ring P f hpo
  have mo := hpo.1
  simp only [st0]
  unfold b_law_ring_told
  walk_at "go"
  rw [h21]
  refine ⟨m, ring, P, f, rfl, hpo, ?_⟩
  have hk : ∀ u', K (rgAnD (bestRingF m ring P f).cost (bestRingF m ring P f).labels (bestRingF m ring P f).numbers (ringWish m ring)) u' := k
  generalize bestRingF m ring P f = x at hsm hk ⊢
  intro kind rss pl pe u1 hlen hrows hpl hold
  have af5 : ∀ {u : Mu} {K : Dt → Mu → Prop}, attK u (Dt.ins 1 [(4, kind), (5, oiD x.cost), (1, .adr pl), (6, .lst (rss.map fun (as : List Addr) => Dt.lst (as.map .adr))), (3, .adr pe)]) 5 K = K (oiD x.cost) u := attK_ins rfl (by decide)
  have af1 : ∀ {u : Mu} {K : Dt → Mu → Prop}, attK u (Dt.ins 1 [(4, kind), (5, oiD x.cost), (1, .adr pl), (6, .lst (rss.map fun (as : List Addr) => Dt.lst (as.map .adr))), (3, .adr pe)]) 1 K = K (.adr pl) u := attK_ins rfl (by decide)
  have af6 : ∀ {u : Mu} {K : Dt → Mu → Prop}, attK u (Dt.ins 1 [(4, kind), (5, oiD x.cost), (1, .adr pl), (6, .lst (rss.map fun (as : List Addr) => Dt.lst (as.map .adr))), (3, .adr pe)]) 6 K = K (.lst (rss.map fun (as : List Addr) => Dt.lst (as.map .adr))) u := attK_ins rfl (by decide)
  generalize Dt.ins 1 [(4, kind), (5, oiD x.cost), (1, .adr pl), (6, .lst (rss.map fun (as : List Addr) => Dt.lst (as.map .adr))), (3, .adr pe)] = fd at af5 af1 af6 ⊢
  have hcell : ∀ as ∈ rss, ∀ p ∈ as, ∃ y : List (Option Int), y.length ≤ 8 ∧ get u1 p = some (.lst (y.map oiD)) := by
    intro as has p hp
    obtain ⟨i, hi⟩ := List.mem_iff_getElem?.mp has
    have hil := (List.getElem?_eq_some_iff.mp hi).1
    obtain ⟨r, hr⟩ := get_ex (xs := x.numbers) (i := i) (by omega)
    obtain ⟨h1, h2⟩ := hrows i as r hi hr
    obtain ⟨j, hj⟩ := List.mem_iff_getElem?.mp hp
    have hjl := (List.getElem?_eq_some_iff.mp hj).1
    obtain ⟨y, hy⟩ := get_ex (xs := r) (i := j) (by omega)
    exact ⟨y, hsm.row r (List.mem_of_getElem? hr) y (List.mem_of_getElem? hy), h2 j p y hj hy⟩
  have hrs10 : ∀ as ∈ rss, as.length ≤ 10 := by
    intro as has
    obtain ⟨i, hi⟩ := List.mem_iff_getElem?.mp has
    have hil := (List.getElem?_eq_some_iff.mp hi).1
    obtain ⟨r, hr⟩ := get_ex (xs := x.numbers) (i := i) (by omega)
    have := hsm.rows r (List.mem_of_getElem? hr)
    have := (hrows i as r hi hr).1
    omega
  have hnum := hsm.num
  have hall : rss.map (fun as => Dt.lst (as.map (cellD u1))) = x.numbers.map fun (r : List (List (Option Int))) => rrD r := by
    apply List.ext_getElem?
    intro i
    rw [List.getElem?_map, List.getElem?_map]
    by_cases hi : i < rss.length
    · obtain ⟨as, has⟩ := get_ex hi
      obtain ⟨r, hr⟩ := get_ex (xs := x.numbers) (i := i) (by omega)
      obtain ⟨h1, h2⟩ := hrows i as r has hr
      rw [has, hr]
      simp only [Option.map_some]
      rw [cells_eq h1 h2]
    · rw [List.getElem?_eq_none (by omega), List.getElem?_eq_none (by omega)]
      rfl
  walk_at "go"
  try simp only [af5, af1, af6]
  walk_at "go"
  rw [sq_adr hpl]
  walk_at "go"
  try simp only [af5, af1, af6]
  walk_at "go"
  refine lc_m (fun as => Dt.lst (as.map (cellD u1))) (by simp only [LIM]; omega) (fun as has J hj => ?_) ?_
  · have := hrs10 as has
    walk_at "go"
    refine lc_m (cellD u1) (by simp only [LIM]; omega) (fun p hp J hj => ?_) ?_
    · obtain ⟨y, _, hy⟩ := hcell as has p hp
      rw [cellD_eq hy] at hj
      walk_at "go"
      rw [sq_adr hy]
      walk_at "go"
      exact hj
    walk_at "go"
    exact hj
  rw [hall]
  walk_at "go"
  try simp only [af5, af1, af6]
  walk_at "go"
  have hA : LenI (pl :: rss.flatten) u1 0 := by
    intro a ha
    rcases List.mem_cons.mp ha with rfl | ha
    · exact ⟨_, hpl, by rw [List.length_map]; have := hsm.lab; omega⟩
    · obtain ⟨as, has, ha⟩ := List.mem_flatten.mp ha
      obtain ⟨y, hy1, hy⟩ := hcell as has a ha
      exact ⟨_, hy, by rw [List.length_map]; omega⟩
  obtain ⟨ds, hg, hl, hput⟩ := len_app hA List.mem_cons_self
  refine ⟨_, hg, _, hg, by simp only [LIM]; omega, ?_⟩
  walk_at "go"
  try simp only [af5, af1, af6]
  walk_at "go"
  refine for_I (xs := rss) (fun i l2 u4 => (∃ s, s ≤ i * 10 + 1 ∧ LenI (pl :: rss.flatten) u4 s) ∧ ∃ a b, l2 = [some (macD m), some (liD ring), some (pD P), some (oiD f), some fd, some (.lst [oiD x.cost, .lst (x.labels.map .int), .lst (x.numbers.map fun (r : List (List (Option Int))) => rrD r)]), a, b]) ⟨⟨1, by omega, hput _⟩, _, _, rfl⟩ ?_ ?_
  · rintro i as l2 u4 has ⟨⟨s, hs, hLen⟩, a, b, rfl⟩
    have hmem := List.mem_of_getElem? has
    have hil := (List.getElem?_eq_some_iff.mp has).1
    have := hrs10 as hmem
    walk_at "go"
    refine for_I (xs := as) (enc := Dt.adr) (fun i2 l2 u6 => (∃ s, s ≤ i * 10 + 1 + i2 ∧ LenI (pl :: rss.flatten) u6 s) ∧ ∃ b, l2 = [some (macD m), some (liD ring), some (pD P), some (oiD f), some fd, some (.lst [oiD x.cost, .lst (x.labels.map .int), .lst (x.numbers.map fun (r : List (List (Option Int))) => rrD r)]), some (.lst (as.map .adr)), b]) ⟨⟨s, by omega, hLen⟩, _, rfl⟩ ?_ ?_
    · rintro i2 p l3 u6 hp ⟨⟨s2, hs2, hLen2⟩, b2, rfl⟩
      have hi2 := (List.getElem?_eq_some_iff.mp hp).1
      obtain ⟨ds, hg, hl, hput⟩ := len_app hLen2 (List.mem_cons_of_mem _ (List.mem_flatten.mpr ⟨as, hmem, List.mem_of_getElem? hp⟩))
      walk_at "go"
      exact ⟨_, hg, _, hg, by simp only [LIM]; omega, s2 + 1, by omega, hput _⟩
    · rintro l5 u6 ⟨⟨s2, hs2, hLen2⟩, b2, rfl⟩
      walk_at "go"
      exact ⟨s2, by omega, hLen2⟩
  · rintro l5 u6 ⟨_, a, b, rfl⟩
    walk_at "go"
    rw [h4]
    refine ⟨m, ring, rfl, mo, ?_⟩
    walk_at "go"
    exact keepK (hk _)
end Ob
/-! part W8 -/
namespace Ob
open PySem L2
local macro_rules | `(tactic| walk_at "wp") => `(tactic| simp only [q_wpE_c, q_wpE_slot, q_wpE_bin, q_wpE_neg, q_wpE_not, q_wpE_or, q_wpE_and, q_wpE_cmp, q_wpE_chain, q_wpE_ife, q_wpE_tup, q_wpE_lst, q_wpE_ix, q_wpE_cut, q_att, blD_eq, mvD_eq, ndD_eq, sq_pD, sq_lm, is_non, is_bl, is_int, is_lst, eq_nn, in_bl, in_lst, decide_true, am_1, am_2, am_3, ar_7, ar_2, ar_8, ar_9, ag_7, ag_2, ag_10, ag_8, ag_9, ck_n, ck_n1, cl_i, cl_i1, cl_n1, ci_t, ci_l, cn_t, cn_l, q_wpE_len, q_wpE_list, q_wpE_tuple, q_wpE_sum, q_wpE_min1, q_wpE_min2, q_wpE_int, q_wpE_all, q_wpE_sset, q_wpE_mdict, q_wpE_isi, q_wpE_pop, q_wpE_app, q_wpE_exd, q_wpE_call, q_wpE_meth, q_wpE_new, q_wpE_fz, q_wpE_bor, q_wpA_nil, q_wpA_cons, q_wpA_star, q_wpT_tv, q_wpT_tnot, q_wpT_tand, q_wpT_tor, q_wpT_noE, q_wpO_noE, q_wpO_tv, q_wpI_iSeq, q_wpI_iRan, q_wpI_iRan2, q_wpI_iEnum, q_wpI_iZip, q_wpI_iRev, e_lc, wpG, wpG.wpGs, wipeD, List.map_cons, List.map_nil, List.append_nil, List.cons_append, List.nil_append, List.replicate, List.length_cons, List.length_nil, List.length_map, Nat.reduceSub, Nat.reduceAdd, tN, enum_map,
  List.set_cons_zero, List.set_cons_succ, List.getElem?_cons_zero, List.getElem?_cons_succ, Option.some.injEq, Dt.int.injEq, Dt.bl.injEq, Dt.lst.injEq, Dt.tup.injEq, Dt.ins.injEq, Dt.adr.injEq, Cell.lst.injEq, Cell.ins.injEq, exists_eq_right, exists_eq_right', Prod.mk.injEq, exists_eq_left', exists_eq_left, exists_and_left, exists_eq', exists_eq, true_and, and_true, List.cons.injEq, and_self, and_assoc,
  bk_addi, bk_sub, bk_mul, bk_mod, bk_div, bk_pow, bk_cat, bk_rep, nk_f, nk_t, sq_lst, sq_tup, sq_pr, ls_lst, fz_lst, fz_tup, ts_non, ts_bl, ts_pr, cm_lt, cm_le, cm_gt, cm_ge, cm_eq, cm_ne, cm_eqb, cm_neb, cm_is, cm_isn, in_non, in_int, in_pr, in_o, in_oi, gt_hd, pt_hd, dl_hd,
  at_0, at_1, at_2, at_3, at_4, oD_n, oD_s, oi_n, oi_s, Option.isNone_none, Option.isNone_some, lim_0, lim_1, lim_2, lim_3, lim_4, lim_5, lim_6, lim_7, Int.natCast_nonneg, Int.ofNat_le, Bool.not_true, Bool.true_or, Bool.false_or, Bool.or_true, Bool.or_false, Bool.true_and, Bool.false_and, Bool.and_true, Bool.and_false, List.contains_cons, List.contains_nil, Nat.reduceBEq, Bool.not_false, Bool.true_eq_false, Bool.false_eq_true, false_imp_iff, true_imp_iff, reduceCtorEq, forall_const, Nat.reduceLT, Nat.reduceLeDiff, eq_self, forall_eq', forall_eq])
local macro_rules | `(tactic| walk_at "go") => `(tactic| (try dsimp only); (try walk_at "wp"); repeat (first | refine seq_i ?_ | (refine asg_i ?_; try walk_at "wp") | (refine drop_i ?_; try walk_at "wp") | (refine ret_i ?_; try walk_at "wp") | (refine forr_i ?_; try walk_at "wp") | (refine iff_i ?_; try walk_at "wp") | (refine seti_i ?_; try walk_at "wp") | (refine augi_i ?_; try walk_at "wp") | (refine seta_i ?_; try walk_at "wp") | (refine skip_i ?_; try walk_at "wp")))
/-! Walks: the law. -/
mutual
def noA : Dt → Bool
  | .adr _ => false
  | .lst xs => noAL xs
  | .tup xs => noAL xs
  | .ins _ fs => noAF fs
  | _ => true
def noAL : List Dt → Bool
  | [] => true
  | d :: r => noA d && noAL r
def noAF : List (Nat × Dt) → Bool
  | [] => true
  | (_, d) :: r => noA d && noAF r
end
mutual
theorem res_noA (u : Mu) : ∀ d : Dt, noA d = true → res u d = d
  | .non, _ => rfl
  | .bl _, _ => rfl
  | .int _, _ => rfl
  | .str _, _ => rfl
  | .keys _, _ => rfl
  | .scr _, _ => rfl
  | .adr _, h => by simp [noA] at h
  | .lst xs, h => by
    show Dt.lst (resL u xs) = .lst xs
    rw [res_noAL u xs h]
  | .tup xs, h => by
    show Dt.tup (resL u xs) = .tup xs
    rw [res_noAL u xs h]
  | .ins c fs, h => by
    show Dt.ins c (resF u fs) = .ins c fs
    rw [res_noAF u fs h]
theorem res_noAL (u : Mu) : ∀ xs : List Dt, noAL xs = true → resL u xs = xs
  | [], _ => rfl
  | d :: r, h => by
    have h2 : (noA d && noAL r) = true := h
    rw [Bool.and_eq_true] at h2
    show res u d :: resL u r = d :: r
    rw [res_noA u d h2.1, res_noAL u r h2.2]
theorem res_noAF (u : Mu) : ∀ xs : List (Nat × Dt), noAF xs = true → resF u xs = xs
  | [], _ => rfl
  | (i, d) :: r, h => by
    have h2 : (noA d && noAF r) = true := h
    rw [Bool.and_eq_true] at h2
    show (i, res u d) :: resF u r = (i, d) :: r
    rw [res_noA u d h2.1, res_noAF u r h2.2]
end
theorem noAL_map {α : Type} (f : α → Dt) (h : ∀ a, noA (f a) = true) : ∀ xs : List α, noAL (xs.map f) = true
  | [] => rfl
  | x :: xs => by
    show (noA (f x) && noAL (xs.map f)) = true
    rw [h x, noAL_map f h xs]
    rfl
theorem noA_tree : ∀ t : Tr, noA (treeD t) = true
  | .n0 _ => rfl
  | .n1 l a => by
    show (true && (noAL [treeD a] && true)) = true
    simp [noAL, noA_tree a]
  | .n2 l a b => by
    show (true && (noAL [treeD a, treeD b] && true)) = true
    simp [noAL, noA_tree a, noA_tree b]
theorem noA_mv (m : Mv) : noA (mvD m) = true := by
  show (true && (noAL (m.2.1.map .int) && (true && true))) = true
  rw [noAL_map _ (fun _ => rfl)]
  rfl
theorem noA_mac (m : Mac) : noA (macD m) = true := by
  show (true && (true && (noAL (m.mv.map mvD) && (noAL (m.en.map .int) && true)))) = true
  rw [noAL_map _ noA_mv, noAL_map _ (fun _ => rfl)]
  rfl
theorem noA_lm (m : Lm) : noA (lmD m) = true := by
  show (true && (true && (noAL (m.mv.map mvD) && (noAL (m.en.map .int) && true)))) = true
  rw [noAL_map _ noA_mv, noAL_map _ (fun _ => rfl)]
  rfl
structure Ask where
  t : Tr
  ps : List Addr
  f : Option Int
  po : Addr
  pr : Addr
  ms : List Addr
def askD (a : Ask) : Dt := .tup [treeD a.t, .lst (a.ps.map .adr), oiD a.f, .adr a.po, .adr a.pr, .lst (a.ms.map .adr)]
structure AskOk (u : Mu) (n : Nat) (a : Ask) : Prop where
  size : a.t.size ≤ 4
  psl : a.ps.length = a.t.size
  ps : ∀ r ∈ a.ps, HasN u r n
  old : HasN u a.po a.t.size
  ring : ∃ d, 1 ≤ d ∧ d ≤ 4 ∧ HasN u a.pr d ∧ a.ms.length = d
  ms : ∀ r ∈ a.ms, HasN u r n
theorem AskOk.mono {u u' : Mu} {n : Nat} {a : Ask} (hn : 1 ≤ n) (h : AskOk u n a) (k : ∀ q k, 1 ≤ k → HasN u q k → HasN u' q k) : AskOk u' n a := by
  obtain ⟨d, h1, h2, h3, h4⟩ := h.ring
  exact ⟨h.size, h.psl, fun r hr => k _ _ hn (h.ps r hr), k _ _ (size_pos _) h.old, ⟨d, h1, h2, k _ _ h1 h3, h4⟩, fun r hr => k _ _ hn (h.ms r hr)⟩
theorem res_rows {u : Mu} {n : Nat} : ∀ (ps : List Addr), (∀ r ∈ ps, HasN u r n) → ∃ P : List (List Int), P.length = ps.length ∧ (∀ r ∈ P, r.length = n) ∧ resL u (ps.map .adr) = P.map fun r => .lst (r.map .int)
  | [], _ => ⟨[], rfl, by simp, rfl⟩
  | p :: ps, h => by
    obtain ⟨P, h1, h2, h3⟩ := res_rows ps fun r hr => h r (List.mem_cons_of_mem _ hr)
    obtain ⟨ns, h4, h5⟩ := h p List.mem_cons_self
    refine ⟨ns :: P, by simp [h1], ?_, ?_⟩
    · intro r hr
      rcases List.mem_cons.mp hr with rfl | hr
      · exact h4
      · exact h2 r hr
    · show res u (.adr p) :: resL u (ps.map .adr) = _
      have e : res u (.adr p) = .lst (ns.map .int) := by
        show (match get u p with
          | some (.lst ds) => (.lst ds : Dt)
          | _ => .adr p) = _
        rw [h5]
      rw [e, h3]
      rfl
theorem res_cell {u : Mu} {p : Addr} {k : Nat} (h : HasN u p k) : ∃ ns : List Int, ns.length = k ∧ res u (.adr p) = liD ns := by
  obtain ⟨ns, h1, h2⟩ := h
  refine ⟨ns, h1, ?_⟩
  show (match get u p with
    | some (.lst ds) => (.lst ds : Dt)
    | _ => .adr p) = _
  rw [h2]
theorem nodup_len {α : Type} [DecidableEq α] : ∀ {xs ys : List α}, xs.Nodup → (∀ x ∈ xs, x ∈ ys) → xs.length ≤ ys.length
  | [], _, _, _ => Nat.zero_le _
  | x :: xs, ys, nd, h => by
    have hx := h x List.mem_cons_self
    obtain ⟨n1, n2⟩ := List.nodup_cons.mp nd
    have ih := nodup_len (ys := ys.erase x) n2 (fun y hy => by
      have h1 := h y (List.mem_cons_of_mem _ hy)
      have ne : y ≠ x := fun e => n1 (by rw [← e]; exact hy)
      exact (List.mem_erase_of_ne ne).mpr h1)
    rw [List.length_erase_of_mem hx] at ih
    have : 0 < ys.length := List.length_pos_of_mem hx
    rw [List.length_cons]
    omega
theorem mac_ok {m : Mac} {q : Lm} (h : Same2 m q) (qo : q.Ok) : m.Ok ∧ m.mv.length ≤ 10 := by
  have h1 := nodup_len h.nd (fun x hx => (h.mv x).mp hx)
  have h2 := nodup_len h.end_ (fun x hx => (h.en x).mp hx)
  have := qo.few
  have := qo.efew
  have := qo.n
  refine ⟨⟨by rw [h.n]; omega, h.nd, by omega, fun x hx => by rw [h.n]; exact qo.lab x ((h.mv x).mp hx), fun x hx => by rw [h.n]; exact qo.ch x ((h.mv x).mp hx), by omega, fun x hx => by rw [h.n]; exact qo.eok x ((h.en x).mp hx)⟩, by omega⟩
theorem pl_ints {k : Nat} {ns : List Int} (h : ns.length ≤ 100000) : Pl (k + 1) (.lst (ns.map .int)) := .lst (fun d hd => by
  obtain ⟨i, _, rfl⟩ := List.mem_map.mp hd
  exact .int) (by rw [List.length_map]; exact h)
theorem pl_oi {k : Nat} (o : Option Int) : Pl k (oiD o) := by
  cases o
  · exact .non
  · exact .int
theorem pl_ri {k : Nat} {r : List (Option Int)} (h : r.length ≤ 100000) : Pl (k + 1) (.lst (r.map oiD)) := .lst (fun d hd => by
  obtain ⟨i, _, rfl⟩ := List.mem_map.mp hd
  exact pl_oi i) (by rw [List.length_map]; exact h)
theorem pl_rr {k : Nat} {rs : List (List (Option Int))} (h : rs.length ≤ 100000) (h2 : ∀ r ∈ rs, r.length ≤ 100000) : Pl (k + 2) (rrD rs) := .lst (fun d hd => by
  obtain ⟨i, hi, rfl⟩ := List.mem_map.mp hd
  exact pl_ri (h2 i hi)) (by rw [List.length_map]; exact h)
theorem pl_an {m : Mac} {x : Fnd} (h : Small m x) : Pl 4 (anD (fAn x)) := .lst (fun d hd => by
  have h1 := h.num
  have h2 := h.lab
  have h3 := h.ends
  simp only [List.mem_cons, List.not_mem_nil, or_false] at hd
  rcases hd with rfl | rfl | rfl | rfl
  · exact pl_oi _
  · exact pl_ints (Nat.le_trans h2 (by decide))
  · exact pl_rr (Nat.le_trans h1 (by decide)) (fun r hr => Nat.le_trans (h.row r hr) (by decide))
  · exact pl_ri (Nat.le_trans h3 (by decide))) (by simp)
theorem pl_told {m : Mac} {t : Tr} {P : List (List Int)} {f : Option Int} {old : List Int} (mo : m.Ok) (ht : t.size ≤ 4) : Pl 5 (toldT m t P f old) := .lst (fun d hd => by
  simp only [List.mem_cons, List.not_mem_nil, or_false] at hd
  rcases hd with rfl | rfl | rfl | rfl | rfl
  · exact pl_an (best_small m t _ _ mo ht)
  · exact pl_an (best_small m t _ _ mo ht)
  · exact pl_an (best_small m t _ _ mo ht)
  · exact .int
  · exact .bl) (by simp)
theorem pl_toldR {m : Mac} {ring : List Int} {P : List (List Int)} {f : Option Int} (h : PrOk m ring P) : Pl 5 (toldR m ring P f) := .lst (fun d hd => by
  have hs := ring_small m ring P f h
  simp only [List.mem_cons, List.not_mem_nil, or_false] at hd
  rcases hd with rfl | rfl
  · refine .lst (fun d hd => ?_) (by simp)
    simp only [List.mem_cons, List.not_mem_nil, or_false] at hd
    rcases hd with rfl | rfl | rfl
    · exact pl_oi _
    · exact pl_ints (Nat.le_trans hs.lab (by decide))
    · refine .lst (fun d hd => ?_) (by rw [List.length_map]; exact Nat.le_trans hs.num (by decide))
      obtain ⟨r, hr, rfl⟩ := List.mem_map.mp hd
      exact pl_rr (Nat.le_trans (hs.rows r hr) (by decide)) (fun y hy => Nat.le_trans (hs.row r hr y hy) (by decide))
  · exact .bl) (by simp)
theorem pool_no {u : Mu} {p q : Addr} {x : List Dt} {k : Nat} (hg : get u p = some (.lst x)) (hx : PoolL x) (h : HasN u q k) : q ≠ p := by
  rintro rfl
  obtain ⟨ns, h1, h2⟩ := h
  rw [hg] at h2
  obtain ⟨cells, a, b, c, d, e, rfl, _⟩ := hx
  have h3 := Option.some.inj h2
  simp only [Cell.lst.injEq] at h3
  cases ns with
  | nil => cases h3
  | cons n ns => cases h3
theorem asks_no {u : Mu} {p q : Addr} {xs : List Ask} {k : Nat} (hg : get u p = some (.lst (xs.map askD))) (hk : 1 ≤ k) (h : HasN u q k) : q ≠ p := by
  rintro rfl
  obtain ⟨ns, h1, h2⟩ := h
  rw [hg] at h2
  have h3 := Option.some.inj h2
  simp only [Cell.lst.injEq] at h3
  cases ns with
  | nil => simp at h1; omega
  | cons n ns =>
    cases xs with
    | nil => cases h3
    | cons x xs => cases h3
theorem get_del_ne : ∀ {u : Mu} {p q : Addr}, p ≠ q → get (del u p) q = get u q
  | [], _, _, _ => rfl
  | (r, e) :: u, p, q, h => by
    by_cases hr : r = p
    · subst hr
      rw [dl_hd, gt_tl _ h]
    · rw [dl_tl _ hr]
      by_cases hq : r = q
      · subst hq
        rw [gt_hd, gt_hd]
      · rw [gt_tl _ hq, gt_tl _ hq]
        exact get_del_ne h
theorem HasN.keep {u u' : Mu} {q : Addr} {k : Nat} (h : HasN u q k) (hk : ∀ c, get u q = some c → get u' q = some c) : HasN u' q k := by
  obtain ⟨ns, h1, h2⟩ := h
  exact ⟨ns, h1, hk _ h2⟩
end Ob
/-! part W4 -/
namespace Ob
open PySem L2
local macro_rules | `(tactic| walk_at "wp") => `(tactic| simp only [q_wpE_c, q_wpE_slot, q_wpE_bin, q_wpE_neg, q_wpE_not, q_wpE_or, q_wpE_and, q_wpE_cmp, q_wpE_chain, q_wpE_ife, q_wpE_tup, q_wpE_lst, q_wpE_ix, q_wpE_cut, q_att, blD_eq, mvD_eq, ndD_eq, sq_pD, sq_lm, is_non, is_bl, is_int, is_lst, eq_nn, in_bl, in_lst, decide_true, am_1, am_2, am_3, ar_7, ar_2, ar_8, ar_9, ag_7, ag_2, ag_10, ag_8, ag_9, ck_n, ck_n1, cl_i, cl_i1, cl_n1, ci_t, ci_l, cn_t, cn_l, q_wpE_len, q_wpE_list, q_wpE_tuple, q_wpE_sum, q_wpE_min1, q_wpE_min2, q_wpE_int, q_wpE_all, q_wpE_sset, q_wpE_mdict, q_wpE_isi, q_wpE_pop, q_wpE_app, q_wpE_exd, q_wpE_call, q_wpE_meth, q_wpE_new, q_wpE_fz, q_wpE_bor, q_wpA_nil, q_wpA_cons, q_wpA_star, q_wpT_tv, q_wpT_tnot, q_wpT_tand, q_wpT_tor, q_wpT_noE, q_wpO_noE, q_wpO_tv, q_wpI_iSeq, q_wpI_iRan, q_wpI_iRan2, q_wpI_iEnum, q_wpI_iZip, q_wpI_iRev, e_lc, wpG, wpG.wpGs, wipeD, List.map_cons, List.map_nil, List.append_nil, List.cons_append, List.nil_append, List.replicate, List.length_cons, List.length_nil, List.length_map, Nat.reduceSub, Nat.reduceAdd, tN, enum_map,
  List.set_cons_zero, List.set_cons_succ, List.getElem?_cons_zero, List.getElem?_cons_succ, Option.some.injEq, Dt.int.injEq, Dt.bl.injEq, Dt.lst.injEq, Dt.tup.injEq, Dt.ins.injEq, Dt.adr.injEq, Cell.lst.injEq, Cell.ins.injEq, exists_eq_right, exists_eq_right', Prod.mk.injEq, exists_eq_left', exists_eq_left, exists_and_left, exists_eq', exists_eq, true_and, and_true, List.cons.injEq, and_self, and_assoc,
  bk_addi, bk_sub, bk_mul, bk_mod, bk_div, bk_pow, bk_cat, bk_rep, nk_f, nk_t, sq_lst, sq_tup, sq_pr, ls_lst, fz_lst, fz_tup, ts_non, ts_bl, ts_pr, cm_lt, cm_le, cm_gt, cm_ge, cm_eq, cm_ne, cm_eqb, cm_neb, cm_is, cm_isn, in_non, in_int, in_pr, in_o, in_oi, gt_hd, pt_hd, dl_hd,
  at_0, at_1, at_2, at_3, at_4, oD_n, oD_s, oi_n, oi_s, Option.isNone_none, Option.isNone_some, lim_0, lim_1, lim_2, lim_3, lim_4, lim_5, lim_6, lim_7, Int.natCast_nonneg, Int.ofNat_le, Bool.not_true, Bool.true_or, Bool.false_or, Bool.or_true, Bool.or_false, Bool.true_and, Bool.false_and, Bool.and_true, Bool.and_false, List.contains_cons, List.contains_nil, Nat.reduceBEq, Bool.not_false, Bool.true_eq_false, Bool.false_eq_true, false_imp_iff, true_imp_iff, reduceCtorEq, forall_const, Nat.reduceLT, Nat.reduceLeDiff, eq_self, forall_eq', forall_eq])
local macro_rules | `(tactic| walk_at "go") => `(tactic| (try dsimp only); (try walk_at "wp"); repeat (first | refine seq_i ?_ | (refine asg_i ?_; try walk_at "wp") | (refine drop_i ?_; try walk_at "wp") | (refine ret_i ?_; try walk_at "wp") | (refine forr_i ?_; try walk_at "wp") | (refine iff_i ?_; try walk_at "wp") | (refine seti_i ?_; try walk_at "wp") | (refine augi_i ?_; try walk_at "wp") | (refine seta_i ?_; try walk_at "wp") | (refine skip_i ?_; try walk_at "wp")))
/-! Walks: the pool and what is drawn. -/
theorem d_pool (F : Nat → FS) : Does F 2 2 b_law_pool S_pool := by
  rintro ds u K ⟨ns, b, rfl, k⟩
  refine ⟨rfl, ?_⟩
  simp only [st0]
  unfold b_law_pool
  walk_at "go"
  refine ⟨_, rfl, ?_⟩
  walk_at "go"
  intro p hp
  exact keepK (k p _ hp ⟨ns, 0, 0, 1, 0, b, rfl, by decide⟩)
theorem i61 : ixN 6 1 = some 1 := by decide
theorem i62 : ixN 6 2 = some 2 := by decide
theorem i63 : ixN 6 3 = some 3 := by decide
theorem i64 : ixN 6 4 = some 4 := by decide
def drawRest : Sx := match b_law_draw with
  | .seq _ b => b
  | _ => .skip
theorem draw_rest (F : Nat → FS) {u : Mu} {K : Dt → Mu → Prop} {p : Addr} {n : Int} {cells : List Int} (hn : 0 < n) (hn2 : n < 1073741824) (k : ∀ (v : Nat) (x' : List Dt), (v : Int) < n → PoolL x' → K (.int v) (put u p (.lst x'))) (a b c d e : Int) (u2 : Mu) (x : Option Dt)
    (ha : 0 ≤ a) (hg : get u2 p = some (.lst [liD cells, .int a, .int b, .int c, .int d, .int e])) (hput : ∀ y, put u2 p y = put u p y) :
      wpS F drawRest [some (.adr p), some (.int n), x, none] u2 (fun _ u' => ∃ u2 : Mu, u2.Sublist u' ∧ K .non u2) (fun d u' => ∃ u2 : Mu, u2.Sublist u' ∧ K d u2) := by
  have fin : ∀ (v : Int) x', 0 ≤ v → v < n → PoolL x' → K (.int v) (put u p (.lst x')) := by
    intro v x' h0 h1 h2
    have := k v.toNat x' (by omega) h2
    rwa [show (v.toNat : Int) = v by omega] at this
  unfold drawRest b_law_draw
  simp only
  walk_at "go"
  rw [sq_adr hg]
  walk_at "go"
  refine ⟨fun h => ?_, fun h => ?_⟩
  · walk_at "go"
    rw [sq_adr hg]
    walk_at "go"
    simp only [Dt.int.injEq, exists_eq_left', reduceCtorEq, false_and, exists_false, or_false]
    refine ⟨hn, ?_⟩
    walk_at "go"
    rw [sq_adr hg]
    walk_at "go"
    refine ⟨hn, hn2, _, hg, ?_⟩
    walk_at "go"
    refine ⟨_, i62, ?_⟩
    walk_at "go"
    have hg2 := get_put (d := .lst [liD cells, .int a, .int (b / n), .int c, .int d, .int e]) hg
    refine ⟨_, hg2, ?_⟩
    walk_at "go"
    refine ⟨_, i64, ?_⟩
    walk_at "go"
    rw [put_put, hput]
    exact keepK (fin _ _ (Int.emod_nonneg _ (by omega)) (Int.emod_lt_of_pos _ hn) ⟨cells, a, _, _, _, _, rfl, ha⟩)
  · walk_at "go"
    rw [sq_adr hg]
    walk_at "go"
    refine ⟨_, hg, ?_⟩
    walk_at "go"
    refine ⟨_, i64, ?_⟩
    walk_at "go"
    have hg2 := get_put (d := .lst [liD cells, .int a, .int b, .int c, .int (d - 1), .int e]) hg
    rw [sq_adr hg2]
    walk_at "go"
    refine ⟨.inr (by decide), ?_⟩
    simp only [Dt.int.injEq, exists_eq_left', reduceCtorEq, false_and, exists_false, or_false]
    refine ⟨by decide, ?_⟩
    walk_at "go"
    refine ⟨_, hg2, ?_⟩
    walk_at "go"
    refine ⟨_, i63, ?_⟩
    walk_at "go"
    have hg3 := get_put (d := .lst [liD cells, .int a, .int b, .int ((c * 48271 + 12345) % 2147483647), .int (d - 1), .int e]) hg2
    rw [sq_adr hg3]
    walk_at "go"
    refine ⟨.inr (by decide), ?_⟩
    simp only [Dt.int.injEq, exists_eq_left', reduceCtorEq, false_and, exists_false, or_false]
    refine ⟨by decide, ?_⟩
    walk_at "go"
    refine ⟨hn, ?_⟩
    rw [put_put, hput]
    exact keepK (fin _ _ (Int.emod_nonneg _ (by omega)) (Int.emod_lt_of_pos _ hn) ⟨cells, a, _, _, _, _, rfl, ha⟩)
theorem d_draw (F : Nat → FS) : Does F 4 2 b_law_draw S_draw := by
  rintro ds u K ⟨p, n, x, rfl, hp, ⟨cells, a, b, c, d, e, rfl, ha⟩, hn, hn2, k⟩
  refine ⟨rfl, ?_⟩
  simp only [st0]
  have main := fun a b c d e u2 x => @draw_rest F u K p n cells hn hn2 k a b c d e u2 x
  show wpS F (.seq _ drawRest) _ _ _ _
  refine seq_i ?_
  walk_at "go"
  rw [sq_adr hp]
  walk_at "go"
  have skp : ∀ x, wpS F Sx.skip [some (Dt.adr p), some (Dt.int n), x, none] u (fun l1 u1 => wpS F drawRest l1 u1 (fun _ u' => ∃ u2 : Mu, u2.Sublist u' ∧ K .non u2) (fun d u' => ∃ u2 : Mu, u2.Sublist u' ∧ K d u2)) (fun d u' => ∃ u2 : Mu, u2.Sublist u' ∧ K d u2) :=
    fun x => main a b c d e u x ha hp (fun y => rfl)
  refine ⟨fun _ => skp _, fun _ => ⟨fun _ => skp _, fun _ => ⟨fun h => ?_, fun _ => skp _⟩⟩⟩
  have hlt : a < cells.length := by simpa using h
  have ev : atI (cells.map Dt.int) a = some (.int (cells.getD a.toNat 0)) := by
    have e1 : a = (a.toNat : Int) := by omega
    conv => lhs; rw [e1]
    exact at_i (by omega)
  generalize cells.getD a.toNat 0 = v at ev
  walk_at "go"
  rw [sq_adr hp]
  walk_at "go"
  refine ⟨_, ev, ?_⟩
  walk_at "go"
  rw [sq_adr hp]
  walk_at "go"
  refine ⟨_, hp, ?_⟩
  walk_at "go"
  refine ⟨_, i61, ?_⟩
  walk_at "go"
  have hg2 := get_put (d := .lst [liD cells, .int (a + 1), .int b, .int c, .int d, .int e]) hp
  rw [sq_adr hg2]
  walk_at "go"
  refine ⟨.inr (by decide), ?_⟩
  simp only [Dt.int.injEq, exists_eq_left', reduceCtorEq, false_and, exists_false, or_false]
  refine ⟨by decide, ?_⟩
  walk_at "go"
  refine ⟨_, hg2, ?_⟩
  walk_at "go"
  refine ⟨_, i63, ?_⟩
  walk_at "go"
  have hg3 := get_put (d := .lst [liD cells, .int (a + 1), .int b, .int ((c * 31 + v) % 2147483647), .int d, .int e]) hg2
  refine ⟨_, hg3, ?_⟩
  walk_at "go"
  refine ⟨_, i64, ?_⟩
  walk_at "go"
  have hg4 := get_put (d := .lst [liD cells, .int (a + 1), .int b, .int ((c * 31 + v) % 2147483647), .int 7, .int e]) hg3
  refine ⟨by decide, by decide, by decide, fun h => ?_, fun h => ?_⟩
  · walk_at "go"
    refine ⟨_, hg4, ?_⟩
    walk_at "go"
    refine ⟨_, i62, ?_⟩
    exact main (a + 1) v _ 7 e _ _ (by omega) (get_put hg4) (fun y => by rw [put_put, put_put, put_put, put_put])
  · exact main (a + 1) _ _ _ _ _ _ (by omega) hg4 (fun y => by rw [put_put, put_put, put_put])
end Ob
/-! part W4b -/
namespace Ob
open PySem L2
local macro_rules | `(tactic| walk_at "wp") => `(tactic| simp only [q_wpE_c, q_wpE_slot, q_wpE_bin, q_wpE_neg, q_wpE_not, q_wpE_or, q_wpE_and, q_wpE_cmp, q_wpE_chain, q_wpE_ife, q_wpE_tup, q_wpE_lst, q_wpE_ix, q_wpE_cut, q_att, blD_eq, mvD_eq, ndD_eq, sq_pD, sq_lm, is_non, is_bl, is_int, is_lst, eq_nn, in_bl, in_lst, decide_true, am_1, am_2, am_3, ar_7, ar_2, ar_8, ar_9, ag_7, ag_2, ag_10, ag_8, ag_9, ck_n, ck_n1, cl_i, cl_i1, cl_n1, ci_t, ci_l, cn_t, cn_l, q_wpE_len, q_wpE_list, q_wpE_tuple, q_wpE_sum, q_wpE_min1, q_wpE_min2, q_wpE_int, q_wpE_all, q_wpE_sset, q_wpE_mdict, q_wpE_isi, q_wpE_pop, q_wpE_app, q_wpE_exd, q_wpE_call, q_wpE_meth, q_wpE_new, q_wpE_fz, q_wpE_bor, q_wpA_nil, q_wpA_cons, q_wpA_star, q_wpT_tv, q_wpT_tnot, q_wpT_tand, q_wpT_tor, q_wpT_noE, q_wpO_noE, q_wpO_tv, q_wpI_iSeq, q_wpI_iRan, q_wpI_iRan2, q_wpI_iEnum, q_wpI_iZip, q_wpI_iRev, e_lc, wpG, wpG.wpGs, wipeD, List.map_cons, List.map_nil, List.append_nil, List.cons_append, List.nil_append, List.replicate, List.length_cons, List.length_nil, List.length_map, Nat.reduceSub, Nat.reduceAdd, tN, enum_map,
  List.set_cons_zero, List.set_cons_succ, List.getElem?_cons_zero, List.getElem?_cons_succ, Option.some.injEq, Dt.int.injEq, Dt.bl.injEq, Dt.lst.injEq, Dt.tup.injEq, Dt.ins.injEq, Dt.adr.injEq, Cell.lst.injEq, Cell.ins.injEq, exists_eq_right, exists_eq_right', Prod.mk.injEq, exists_eq_left', exists_eq_left, exists_and_left, exists_eq', exists_eq, true_and, and_true, List.cons.injEq, and_self, and_assoc,
  bk_addi, bk_sub, bk_mul, bk_mod, bk_div, bk_pow, bk_cat, bk_rep, nk_f, nk_t, sq_lst, sq_tup, sq_pr, ls_lst, fz_lst, fz_tup, ts_non, ts_bl, ts_pr, cm_lt, cm_le, cm_gt, cm_ge, cm_eq, cm_ne, cm_eqb, cm_neb, cm_is, cm_isn, in_non, in_int, in_pr, in_o, in_oi, gt_hd, pt_hd, dl_hd,
  at_0, at_1, at_2, at_3, at_4, oD_n, oD_s, oi_n, oi_s, Option.isNone_none, Option.isNone_some, lim_0, lim_1, lim_2, lim_3, lim_4, lim_5, lim_6, lim_7, Int.natCast_nonneg, Int.ofNat_le, Bool.not_true, Bool.true_or, Bool.false_or, Bool.or_true, Bool.or_false, Bool.true_and, Bool.false_and, Bool.and_true, Bool.and_false, List.contains_cons, List.contains_nil, Nat.reduceBEq, Bool.not_false, Bool.true_eq_false, Bool.false_eq_true, false_imp_iff, true_imp_iff, reduceCtorEq, forall_const, Nat.reduceLT, Nat.reduceLeDiff, eq_self, forall_eq', forall_eq])
local macro_rules | `(tactic| walk_at "go") => `(tactic| (try dsimp only); (try walk_at "wp"); repeat (first | refine seq_i ?_ | (refine asg_i ?_; try walk_at "wp") | (refine drop_i ?_; try walk_at "wp") | (refine ret_i ?_; try walk_at "wp") | (refine forr_i ?_; try walk_at "wp") | (refine iff_i ?_; try walk_at "wp") | (refine seti_i ?_; try walk_at "wp") | (refine augi_i ?_; try walk_at "wp") | (refine seta_i ?_; try walk_at "wp") | (refine skip_i ?_; try walk_at "wp")))
/-! Walks: what is drawn, made. -/
theorem put_self : ∀ {u : Mu} {p : Addr} {c : Cell}, get u p = some c → put u p c = u
  | [], _, _, _ => rfl
  | (q, e) :: u, p, c, h => by
    by_cases hq : q = p
    · subst hq
      rw [gt_hd] at h
      cases h
      exact pt_hd _ _ _
    · rw [gt_tl _ hq] at h
      rw [pt_tl _ _ hq, put_self h]
theorem put_comm : ∀ {u : Mu} {p q : Addr} {c d : Cell}, p ≠ q → put (put u q d) p c = put (put u p c) q d
  | [], _, _, _, _, _ => rfl
  | (r, e) :: u, p, q, c, d, h => by
    by_cases h1 : r = q
    · subst h1
      rw [pt_hd, pt_tl _ _ (Ne.symm h), pt_tl _ _ (Ne.symm h), pt_hd]
    · by_cases h2 : r = p
      · subst h2
        rw [pt_tl _ _ h1, pt_hd, pt_hd, pt_tl _ _ h1]
      · rw [pt_tl _ _ h1, pt_tl _ _ h2, pt_tl _ _ h2, pt_tl _ _ h1, put_comm h]
theorem cut_from (xs : List Dt) (k : Nat) (h : k ≤ xs.length) : cutD xs (some (k : Int)) none = xs.drop k := by
  unfold cutD
  rw [HT.sIx_nat, HT.sIx_none, Nat.min_eq_left h]
  apply List.take_of_length_le
  rw [List.length_drop]
  exact Nat.le_refl _
theorem cut_to (xs : List Dt) (k : Nat) (h : k ≤ xs.length) : cutD xs none (some (k : Int)) = xs.take k := by
  unfold cutD
  rw [HT.sIx_nat, HT.sIx_none, Nat.min_eq_left h, Nat.sub_zero]
  rfl
theorem at_5 {v : Nat} (h : (v : Int) < 5) : ∃ c : Nat, c ≤ 2 ∧ atI [Dt.int 0, Dt.int 1, Dt.int 1, Dt.int 2, Dt.int 2] (v : Int) = some (.int c) := by
  match v, h with
  | 0, _ => exact ⟨0, by decide, rfl⟩
  | 1, _ => exact ⟨1, by decide, rfl⟩
  | 2, _ => exact ⟨1, by decide, rfl⟩
  | 3, _ => exact ⟨2, by decide, rfl⟩
  | 4, _ => exact ⟨2, by decide, rfl⟩
  | v + 5, h => omega
theorem at_4' {v : Nat} (h : (v : Int) < 4) : ∃ c : Nat, c ≤ 2 ∧ atI [Dt.int 0, Dt.int 1, Dt.int 1, Dt.int 2] (v : Int) = some (.int c) := by
  match v, h with
  | 0, _ => exact ⟨0, by decide, rfl⟩
  | 1, _ => exact ⟨1, by decide, rfl⟩
  | 2, _ => exact ⟨1, by decide, rfl⟩
  | 3, _ => exact ⟨2, by decide, rfl⟩
  | v + 4, h => omega
theorem lc_draw {F : Nat → FS} (h23 : F 23 = S_draw) {p : Addr} {n : Nat} {k : Nat} {l : Dl} {u : Mu} {m : Bool} {own : List Nat} {e1 e2 : Ex} {i : Nat} {K : Dt → Mu → Prop} {x : List Dt} (hk : k ≤ 1000) (hn : 0 < n) (hn2 : n ≤ 1000)
    (hg : get u p = some (.lst x)) (hx : PoolL x)
    (he : ∀ (j : Nat) (u2 : Mu) (Q : Dt → Dt → Mu → Prop), Q (.adr p) (.int n) u2 → wpE F e1 ((wipeD l own).set i (some (.int (j : Nat)))) u2 fun d u3 => wpE F e2 ((wipeD l own).set i (some (.int (j : Nat)))) u3 fun d2 u4 => Q d d2 u4)
    (h : ∀ (vs : List Nat) x', vs.length = k → (∀ v ∈ vs, v < n) → PoolL x' → newK m (vs.map natD) (put u p (.lst x')) K) :
    LcP F m own (.call 23 (.cons e1 (.cons e2 .nil))) (.slot i) .noE K l ((List.range k).map fun (k : Nat) => .int (k : Int)) u := by
  have hput : put u p (.lst x) = u := put_self hg
  refine lc_I (fun i acc u2 => ∃ (vs : List Nat) (x' : List Dt), acc = vs.map natD ∧ vs.length = i ∧ (∀ v ∈ vs, v < n) ∧ PoolL x' ∧ u2 = put u p (.lst x')) ⟨[], x, rfl, rfl, by simp, hx, hput.symm⟩ (by rw [List.length_range]; simp only [LIM]; omega) ?_ ?_
  · rintro i2 y acc u2 hy ⟨vs, x', rfl, hl, hv, hp, rfl⟩
    walk_at "go"
    refine he _ _ (fun d d2 u4 => F 23 [d, d2] u4 _) ?_
    rw [h23]
    refine ⟨p, n, x', rfl, get_put hg, hp, by omega, by omega, fun v x2 hv2 hx2 => ?_⟩
    refine ⟨vs ++ [v], by simp, by simp [hl], ?_, x2, hx2, by rw [put_put]⟩
    intro w hw
    rw [List.mem_append, List.mem_singleton] at hw
    rcases hw with hw | hw
    · exact hv w hw
    · omega
  · rintro acc u2 ⟨vs, x', rfl, hl, hv, hp, rfl⟩
    rw [List.length_range] at hl
    exact h vs x' hl hv hp
theorem d_lshape (F : Nat → FS) (h23 : F 23 = S_draw) (h28 : F 28 = S_lrow_tree) (h26 : F 26 = S_ltree 4) : Does F 4 3 b_law_shape S_lshape := by
  rintro ds u K ⟨p, L, x, rfl, hL1, hL3, hg, hx, k⟩
  refine ⟨rfl, ?_⟩
  simp only [st0]
  unfold b_law_shape
  walk_at "go"
  rw [h23]
  refine ⟨p, 3, x, rfl, hg, hx, by decide, by decide, fun v x1 hv hx1 => ?_⟩
  walk_at "go"
  refine ⟨fun h => ?_, fun h => ?_⟩
  · walk_at "go"
    rw [h23]
    refine ⟨p, 4, x1, rfl, get_put hg, hx1, by decide, by decide, fun v2 x2 hv2 hx2 => ?_⟩
    walk_at "go"
    rw [show (1 : Int) + (v2 : Int) = ((v2 + 1 : Nat) : Int) by omega]
    refine ⟨by omega, by omega, ?_⟩
    rw [tN]
    refine lc_draw h23 (p := p) (n := L) (x := x2) (by omega) (by omega) (by omega) (by rw [put_put]; exact get_put hg) hx2 ?_ ?_
    · intro j u2 Q hq
      walk_at "go"
      exact hq
    · intro vs x3 hl hv3 hx3
      walk_at "go"
      rw [h28]
      refine ⟨vs.map fun (v : Nat) => (v : Int), by simp, ?_, fun t ht => ?_⟩
      · intro e
        rw [List.map_eq_nil_iff] at e
        rw [e] at hl
        simp at hl
      · rw [put_put, put_put]
        rw [List.length_map] at ht
        exact keepK (k t x3 (by omega) hx3)
  · walk_at "go"
    rw [h23]
    refine ⟨p, 4, x1, rfl, get_put hg, hx1, by decide, by decide, fun v2 x2 hv2 hx2 => ?_⟩
    walk_at "go"
    intro q hq
    rw [put_put] at hq ⊢
    have hg2 : get (put u p (.lst x2)) p = some (.lst x2) := get_put hg
    have ne : p ≠ q := by
      intro e
      apply hq
      rw [← e]
      exact get_adr hg2
    rw [h26]
    refine ⟨p, q, L, v2, x2, rfl, hL1, hL3, ne, by rw [gt_tl _ (Ne.symm ne)]; exact hg2, hx2, gt_hd _ _, by omega, fun t x3 left' ht hx3 => ?_⟩
    rw [pt_tl _ _ (Ne.symm ne), pt_hd, put_put]
    exact dropK (k t x3 (by omega) hx3)
theorem d_lrow_tree (F : Nat → FS) : Does F 3 1 b_law_row_tree S_lrow_tree := by
  rintro ds u K ⟨ls, rfl, hne, k⟩
  refine ⟨rfl, ?_⟩
  simp only [st0]
  unfold b_law_row_tree
  cases ls with
  | nil => exact absurd rfl hne
  | cons l ls =>
  walk_at "go"
  have e : cutD (Dt.int l :: ls.map Dt.int) (some 1) none = ls.map Dt.int := cut_from (Dt.int l :: ls.map Dt.int) 1 (by simp)
  rw [e]
  refine for_I (fun i l2 u2 => u2 = u ∧ ∃ a, ∃ t : Tr, t.size = i + 1 ∧ l2 = [some (liD (l :: ls)), some (treeD t), a]) ⟨rfl, _, .n0 l, rfl, rfl⟩ ?_ ?_
  · rintro i x l2 u2 hx ⟨rfl, a, t, ht, rfl⟩
    walk_at "go"
    exact ⟨_, Tr.n1 x t, by simp [Tr.size, ht], rfl, rfl⟩
  · rintro l4 u4 ⟨rfl, a, t, ht, rfl⟩
    walk_at "go"
    exact keepK (k t (by simp [ht]))
def trOf (l : Int) : List Tr → Tr
  | [] => .n0 l
  | [a] => .n1 l a
  | a :: b :: _ => .n2 l a b
theorem trOf_ok (l : Int) {ts : List Tr} (h : ts.length ≤ 2) : treeD (trOf l ts) = .tup [.int l, .tup (ts.map treeD)] ∧ (trOf l ts).size = (ts.map Tr.size).sum + 1 := by
  match ts, h with
  | [], _ => exact ⟨rfl, rfl⟩
  | [a], _ => exact ⟨rfl, by simp [trOf, Tr.size]⟩
  | [a, b], _ => exact ⟨rfl, by simp [trOf, Tr.size]⟩
  | _ :: _ :: _ :: _, h => simp at h
theorem d_ltree (F : Nat → FS) (b : Nat) (h23 : F 23 = S_draw) (h26 : b = 0 ∨ ∃ b', b = b' + 1 ∧ F 26 = S_ltree b') : Does F 7 3 b_law_tree (S_ltree b) := by
  rintro ds u K ⟨p, q, L, left, x, rfl, hL1, hL3, hpq, hg, hx, hgq, hleft, k⟩
  refine ⟨rfl, ?_⟩
  simp only [st0]
  unfold b_law_tree
  walk_at "go"
  rw [h23]
  refine ⟨p, L, x, rfl, hg, hx, by omega, by omega, fun v0 x1 hv0 hx1 => ?_⟩
  walk_at "go"
  rw [h23]
  refine ⟨p, 5, x1, rfl, get_put hg, hx1, by decide, by decide, fun v x2 hv hx2 => ?_⟩
  obtain ⟨c, hc, hat⟩ := at_5 hv
  walk_at "go"
  refine ⟨_, hat, ?_⟩
  rw [put_put]
  have hput : put u p (.lst x2) = put (put u p (.lst x2)) q (.lst [.int left]) := (put_self (by rw [get_put_ne hpq]; exact hgq)).symm
  rw [hput]
  walk_at "go"
  intro r hr
  have hgp : ∀ (x' : List Dt) (y : Cell), get (put (put u p (.lst x')) q y) p = some (.lst x') := fun x' y => by
    rw [get_put_ne (Ne.symm hpq)]
    exact get_put hg
  have hgq2 : ∀ (x' : List Dt) (y : Cell), get (put (put u p (.lst x')) q y) q = some y := fun x' y => get_put (by rw [get_put_ne hpq]; exact hgq)
  have nrp : r ≠ p := by
    intro e
    apply hr
    rw [e]
    exact get_adr (hgp _ _)
  have nrq : r ≠ q := by
    intro e
    apply hr
    rw [e]
    exact get_adr (hgq2 _ _)
  walk_at "go"
  refine ⟨by omega, ?_⟩
  refine for_I (fun i l2 u2 => ∃ (ts : List Tr) (x' : List Dt) (lf : Nat), ts.length ≤ i ∧ (ts.map Tr.size).sum + lf ≤ left ∧ PoolL x' ∧ u2 = (r, .lst (ts.map treeD)) :: put (put u p (.lst x')) q (.lst [.int lf]) ∧ ∃ a, l2 = [some (.adr p), some (.int L), some (.adr q), some (.int v0), some (.int c), some (.adr r), a]) ⟨[], x2, left, Nat.le_refl _, by simp, hx2, rfl, _, rfl⟩ ?_ ?_
  · rintro i y l2 u2 hy ⟨ts, x', lf, hts, hsum, hx', rfl, a, rfl⟩
    obtain ⟨rfl, hi⟩ := range_get hy
    walk_at "go"
    rw [sq_adr (by rw [gt_tl _ nrq]; exact hgq2 _ _)]
    walk_at "go"
    refine ⟨fun h => ?_, fun h => ?_⟩
    · have hlf : 0 < lf := by simpa using h
      walk_at "go"
      rw [sq_adr (by rw [gt_tl _ nrq]; exact hgq2 _ _)]
      walk_at "go"
      refine ⟨_, by rw [gt_tl _ nrq]; exact hgq2 _ _, ?_⟩
      walk_at "go"
      refine ⟨0, by decide, ?_⟩
      rw [pt_tl _ _ nrq, put_put]
      walk_at "go"
      rcases h26 with h0 | ⟨b', hb, h26⟩
      · omega
      rw [h26, show ((lf : Int) - 1) = ((lf - 1 : Nat) : Int) by omega]
      refine ⟨p, q, L, lf - 1, x', rfl, hL1, hL3, hpq, by rw [gt_tl _ nrp]; exact hgp _ _, hx', by rw [gt_tl _ nrq]; exact hgq2 _ _, by omega, fun t x3 l3 ht hx3 => ?_⟩
      rw [pt_tl _ _ nrp, pt_tl _ _ nrq, put_comm hpq, put_put, put_put]
      walk_at "go"
      refine ⟨by simp only [LIM, List.length_map]; omega, ts ++ [t], by simp; omega, x3, l3, ?_, hx3, by simp⟩
      simp only [List.map_append, List.map_cons, List.map_nil, List.sum_append, List.sum_cons, List.sum_nil]
      omega
    · walk_at "go"
      exact ⟨ts, by omega, x', lf, hsum, hx', rfl, rfl⟩
  · rintro l4 u4 ⟨ts, x', lf, hts, hsum, hx', rfl, a, rfl⟩
    rw [List.length_range] at hts
    obtain ⟨e1, e2⟩ := trOf_ok v0 (ts := ts) (by omega)
    walk_at "go"
    rw [fz2_hd (no_map _ (fun t => by cases t <;> rfl) _)]
    walk_at "go"
    refine ⟨_, .inr rfl, ?_⟩
    walk_at "go"
    rw [← e1]
    exact keepK (k _ x' lf (by omega) hx')
end Ob
/-! part W4d -/
namespace Ob
open PySem L2
local macro_rules | `(tactic| walk_at "wp") => `(tactic| simp only [q_wpE_c, q_wpE_slot, q_wpE_bin, q_wpE_neg, q_wpE_not, q_wpE_or, q_wpE_and, q_wpE_cmp, q_wpE_chain, q_wpE_ife, q_wpE_tup, q_wpE_lst, q_wpE_ix, q_wpE_cut, q_att, blD_eq, mvD_eq, ndD_eq, sq_pD, sq_lm, is_non, is_bl, is_int, is_lst, eq_nn, in_bl, in_lst, decide_true, am_1, am_2, am_3, ar_7, ar_2, ar_8, ar_9, ag_7, ag_2, ag_10, ag_8, ag_9, ck_n, ck_n1, cl_i, cl_i1, cl_n1, ci_t, ci_l, cn_t, cn_l, q_wpE_len, q_wpE_list, q_wpE_tuple, q_wpE_sum, q_wpE_min1, q_wpE_min2, q_wpE_int, q_wpE_all, q_wpE_sset, q_wpE_mdict, q_wpE_isi, q_wpE_pop, q_wpE_app, q_wpE_exd, q_wpE_call, q_wpE_meth, q_wpE_new, q_wpE_fz, q_wpE_bor, q_wpA_nil, q_wpA_cons, q_wpA_star, q_wpT_tv, q_wpT_tnot, q_wpT_tand, q_wpT_tor, q_wpT_noE, q_wpO_noE, q_wpO_tv, q_wpI_iSeq, q_wpI_iRan, q_wpI_iRan2, q_wpI_iEnum, q_wpI_iZip, q_wpI_iRev, e_lc, wpG, wpG.wpGs, wipeD, List.map_cons, List.map_nil, List.append_nil, List.cons_append, List.nil_append, List.replicate, List.length_cons, List.length_nil, List.length_map, Nat.reduceSub, Nat.reduceAdd, tN, enum_map,
  List.set_cons_zero, List.set_cons_succ, List.getElem?_cons_zero, List.getElem?_cons_succ, Option.some.injEq, Dt.int.injEq, Dt.bl.injEq, Dt.lst.injEq, Dt.tup.injEq, Dt.ins.injEq, Dt.adr.injEq, Cell.lst.injEq, Cell.ins.injEq, exists_eq_right, exists_eq_right', Prod.mk.injEq, exists_eq_left', exists_eq_left, exists_and_left, exists_eq', exists_eq, true_and, and_true, List.cons.injEq, and_self, and_assoc,
  bk_addi, bk_sub, bk_mul, bk_mod, bk_div, bk_pow, bk_cat, bk_rep, nk_f, nk_t, sq_lst, sq_tup, sq_pr, ls_lst, fz_lst, fz_tup, ts_non, ts_bl, ts_pr, cm_lt, cm_le, cm_gt, cm_ge, cm_eq, cm_ne, cm_eqb, cm_neb, cm_is, cm_isn, in_non, in_int, in_pr, in_o, in_oi, gt_hd, pt_hd, dl_hd,
  at_0, at_1, at_2, at_3, at_4, oD_n, oD_s, oi_n, oi_s, Option.isNone_none, Option.isNone_some, lim_0, lim_1, lim_2, lim_3, lim_4, lim_5, lim_6, lim_7, Int.natCast_nonneg, Int.ofNat_le, Bool.not_true, Bool.true_or, Bool.false_or, Bool.or_true, Bool.or_false, Bool.true_and, Bool.false_and, Bool.and_true, Bool.and_false, List.contains_cons, List.contains_nil, Nat.reduceBEq, Bool.not_false, Bool.true_eq_false, Bool.false_eq_true, false_imp_iff, true_imp_iff, reduceCtorEq, forall_const, Nat.reduceLT, Nat.reduceLeDiff, eq_self, forall_eq', forall_eq])
local macro_rules | `(tactic| walk_at "go") => `(tactic| (try dsimp only); (try walk_at "wp"); repeat (first | refine seq_i ?_ | (refine asg_i ?_; try walk_at "wp") | (refine drop_i ?_; try walk_at "wp") | (refine ret_i ?_; try walk_at "wp") | (refine forr_i ?_; try walk_at "wp") | (refine iff_i ?_; try walk_at "wp") | (refine seti_i ?_; try walk_at "wp") | (refine augi_i ?_; try walk_at "wp") | (refine seta_i ?_; try walk_at "wp") | (refine skip_i ?_; try walk_at "wp")))
/-! Walks: the law's machine, prices, what moves. -/
theorem d_lmachine (F : Nat → FS) (h23 : F 23 = S_draw) : Does F 11 4 b_law_machine S_lmachine := by
  rintro ds u K ⟨p, L, n, x, rfl, hL1, hL3, hn1, hn3, hg, hx, k⟩
  refine ⟨rfl, ?_⟩
  simp only [st0]
  unfold b_law_machine
  walk_at "go"
  intro r hr
  have nrp : r ≠ p := by
    intro e
    apply hr
    rw [e]
    exact get_adr hg
  walk_at "go"
  rw [h23]
  refine ⟨p, 11, x, by simp, by rw [gt_tl _ nrp]; exact hg, hx, by decide, by decide, fun v x1 hv hx1 => ?_⟩
  rw [pt_tl _ _ nrp]
  walk_at "go"
  refine ⟨by omega, ?_⟩
  have hgp : ∀ (x' : List Dt) (y : Cell), get ((r, y) :: put u p (.lst x')) p = some (.lst x') := fun x' y => by
    rw [gt_tl _ nrp]
    exact get_put hg
  refine for_I (fun i l2 u2 => ∃ (ms : List Mv) (x' : List Dt), ms.length ≤ i ∧ (∀ z ∈ ms, 0 ≤ z.1 ∧ z.1 < (L : Int)) ∧ (∀ z ∈ ms, 0 ≤ z.2.2 ∧ z.2.2 < (n : Int)) ∧ (∀ z ∈ ms, z.2.1.length ≤ 2 ∧ ∀ c ∈ z.2.1, 0 ≤ c ∧ c < (n : Int)) ∧ PoolL x' ∧
      u2 = (r, .lst (ms.map mvD)) :: put u p (.lst x') ∧ ∃ a b c d e f, l2 = [some (.adr p), some (.int L), some (.int n), some (.int 10), some (.adr r), a, b, c, d, e, f]) ⟨[], x1, by simp, by simp, by simp, by simp, hx1, rfl, _, _, _, _, _, _, rfl⟩ ?_ ?_
  · rintro i y l2 u2 hy ⟨ms, x', hm1, hm2, hm3, hm4, hx', rfl, a, b, c, d, e, f, rfl⟩
    obtain ⟨rfl, hi⟩ := range_get hy
    walk_at "go"
    rw [h23]
    refine ⟨p, 4, x', rfl, hgp _ _, hx', by decide, by decide, fun v2 x2 hv2 hx2 => ?_⟩
    rw [pt_tl _ _ nrp, put_put]
    obtain ⟨cn, hcn, hat⟩ := at_4' hv2
    walk_at "go"
    refine ⟨_, hat, ?_⟩
    walk_at "go"
    refine ⟨by omega, ?_⟩
    refine lc_draw h23 (p := p) (n := n) (x := x2) (by omega) (by omega) (by omega) (hgp _ _) hx2 ?_ ?_
    · intro j u2 Q hq
      walk_at "go"
      exact hq
    · intro vs x3 hvl hvn hx3
      rw [pt_tl _ _ nrp, put_put]
      walk_at "go"
      refine ⟨_, .inr rfl, ?_⟩
      walk_at "go"
      rw [h23]
      refine ⟨p, L, x3, rfl, hgp _ _, hx3, by omega, by omega, fun v4 x4 hv4 hx4 => ?_⟩
      rw [pt_tl _ _ nrp, put_put]
      walk_at "go"
      refine ⟨p, n, x4, rfl, hgp _ _, hx4, by omega, by omega, fun v5 x5 hv5 hx5 => ?_⟩
      rw [pt_tl _ _ nrp, put_put]
      walk_at "go"
      refine ⟨by simp only [LIM, List.length_map]; omega, ms ++ [((v4 : Int), vs.map fun (v : Nat) => (v : Int), (v5 : Int))], by simp; omega, ?_, ?_, ?_, x5, hx5, ?_⟩
      · intro z hz
        rw [List.mem_append, List.mem_singleton] at hz
        rcases hz with hz | hz
        · exact hm2 z hz
        · subst hz
          simp only
          omega
      · intro z hz
        rw [List.mem_append, List.mem_singleton] at hz
        rcases hz with hz | hz
        · exact hm3 z hz
        · subst hz
          simp only
          omega
      · intro z hz
        rw [List.mem_append, List.mem_singleton] at hz
        rcases hz with hz | hz
        · exact hm4 z hz
        · subst hz
          simp only [List.length_map]
          refine ⟨by omega, fun c hc => ?_⟩
          rw [List.mem_map] at hc
          obtain ⟨w, hw, rfl⟩ := hc
          have := hvn w hw
          omega
      · have e : (vs.map fun (v : Nat) => Dt.int (v : Int)) = (vs.map fun (v : Nat) => (v : Int)).map .int := by
          rw [List.map_map]
          rfl
        simp only [List.map_append, List.map_cons, List.map_nil, mvD_eq, List.map_map]
        exact ⟨rfl, trivial⟩
  · rintro l4 u4 ⟨ms, x', hm1, hm2, hm3, hm4, hx', rfl, a, b, c, d, e, f, rfl⟩
    rw [List.length_range] at hm1
    walk_at "go"
    refine ⟨by omega, ?_⟩
    refine lc_I (fun i acc u2 => ∃ (es : List Nat) (x'' : List Dt), acc = es.map natD ∧ es.length ≤ i ∧ (∀ v ∈ es, v < n) ∧ PoolL x'' ∧ u2 = (r, .lst (ms.map mvD)) :: put u p (.lst x'')) ⟨[], x', rfl, by simp, by simp, hx', rfl⟩ (by rw [List.length_range]; simp only [LIM]; omega) ?_ ?_
    · rintro i2 y acc u2 hy ⟨es, x2, rfl, hl, hv3, hx2, rfl⟩
      obtain ⟨rfl, hi⟩ := range_get hy
      walk_at "go"
      rw [h23]
      refine ⟨p, 2, x2, rfl, hgp _ _, hx2, by decide, by decide, fun v4 x4 hv4 hx4 => ?_⟩
      rw [pt_tl _ _ nrp, put_put]
      walk_at "go"
      refine ⟨fun h => ?_, fun h => ?_⟩
      · refine ⟨es ++ [y], by simp, by simp; omega, ?_, x4, hx4, rfl⟩
        intro w hw
        rw [List.mem_append, List.mem_singleton] at hw
        rcases hw with hw | hw
        · exact hv3 w hw
        · omega
      · exact ⟨es, rfl, by omega, hv3, x4, hx4, rfl⟩
    · rintro acc u2 ⟨es, x2, rfl, hl, hv3, hx2, rfl⟩
      rw [List.length_range] at hl
      walk_at "go"
      rw [fz2_hd (no_map _ (fun _ => rfl) _)]
      walk_at "go"
      have q := k ⟨L, n, ms, es.map fun (v : Nat) => (v : Int)⟩ x2 ⟨⟨hL1, hL3⟩, ⟨hn1, hn3⟩, by simp only; omega, hm2, hm3, hm4, by simp; omega, by
        intro z hz
        simp only [List.mem_map] at hz
        obtain ⟨w, hw, rfl⟩ := hz
        have := hv3 w hw
        simp only
        omega⟩ rfl rfl hx2
      unfold lmD at q
      simp only [List.map_map] at q
      exact keepK q
theorem d_lprices (F : Nat → FS) (h23 : F 23 = S_draw) : Does F 6 3 b_law_prices S_lprices := by
  rintro ds u K ⟨p, kk, n, x, rfl, hk, hn, hg, hx, k⟩
  refine ⟨rfl, ?_⟩
  simp only [st0]
  unfold b_law_prices
  walk_at "go"
  rw [h23]
  refine ⟨p, 3, x, rfl, hg, hx, by decide, by decide, fun v x1 hv hx1 => ?_⟩
  obtain ⟨w, hw1, hw2, hat⟩ : ∃ w : Nat, 0 < w ∧ w ≤ 1000 ∧ atI [Dt.int 2, Dt.int 5, Dt.int 1000] (v : Int) = some (.int w) := by
    match v, hv with
    | 0, _ => exact ⟨2, by decide, by decide, rfl⟩
    | 1, _ => exact ⟨5, by decide, by decide, rfl⟩
    | 2, _ => exact ⟨1000, by decide, by decide, rfl⟩
    | v + 3, h => omega
  walk_at "go"
  refine ⟨_, hat, ?_⟩
  walk_at "go"
  refine ⟨by omega, ?_⟩
  refine lc_I (fun i acc u2 => ∃ (rs : List Addr) (x' : List Dt), acc = rs.map .adr ∧ rs.length = i ∧ (∀ r ∈ rs, ∃ ns : List Int, ns.length = n ∧ get u2 r = some (.lst (ns.map .int))) ∧ (∀ q, q ≠ p → q ∈ adrs u → get u2 q = get u q) ∧ (∀ q ∈ adrs u, q ∈ adrs u2) ∧ (p ∉ rs) ∧ get u2 p = some (.lst x') ∧ PoolL x')
    ⟨[], x1, rfl, rfl, by simp, fun q hq _ => get_put_ne (Ne.symm hq), fun q hq => by rw [adrs_put]; exact hq, by simp, get_put hg, hx1⟩ (by rw [List.length_range]; simp only [LIM]; omega) ?_ ?_
  · rintro i y acc u2 hy ⟨rs, x', rfl, hl, hrs, hold, hsub, hpr, hgp, hx'⟩
    walk_at "go"
    refine ⟨by omega, ?_⟩
    refine lc_draw h23 (p := p) (n := w) (x := x') (by omega) (by omega) (by omega) hgp hx' ?_ ?_
    · intro j u2 Q hq
      walk_at "go"
      exact hq
    · intro vs x3 hvl hvn hx3
      walk_at "go"
      intro r hr
      have hgp2 : get (put u2 p (.lst x3)) p = some (.lst x3) := get_put hgp
      have nrp : r ≠ p := by
        intro e
        apply hr
        rw [e]
        exact get_adr hgp2
      refine ⟨rs ++ [r], by simp, by simp [hl], ?_, ?_, ?_, ?_, x3, by rw [gt_tl _ nrp]; exact hgp2, hx3⟩
      · intro z hz
        rw [List.mem_append, List.mem_singleton] at hz
        rcases hz with hz | hz
        · obtain ⟨ns, h1, h2⟩ := hrs z hz
          have nzp : z ≠ p := fun e => hpr (e ▸ hz)
          have h3 : get (put u2 p (.lst x3)) z = some (.lst (ns.map .int)) := by
            rw [get_put_ne (Ne.symm nzp)]
            exact h2
          exact ⟨ns, h1, by rw [gt_tl _ (ne_fresh h3 hr)]; exact h3⟩
        · subst hz
          refine ⟨vs.map fun (v : Nat) => (v : Int), by simp [hvl], ?_⟩
          rw [gt_hd, List.map_map]
          rfl
      · intro q hq hqu
        have hq2 := hsub q hqu
        have n1 : r ≠ q := fun e => hr (by rw [e, adrs_put]; exact hq2)
        rw [gt_tl _ n1, get_put_ne (Ne.symm hq)]
        exact hold q hq hqu
      · intro q hq
        have h9 : q ∈ adrs (put u2 p (.lst x3)) := by rw [adrs_put]; exact hsub q hq
        exact List.mem_cons_of_mem _ h9
      · intro h
        rw [List.mem_append, List.mem_singleton] at h
        rcases h with h | h
        · exact hpr h
        · exact nrp h.symm
  · rintro acc u2 ⟨rs, x', rfl, hl, hrs, hold, hsub, hpr, hgp, hx'⟩
    rw [List.length_range] at hl
    exact keepK (k rs u2 x' hl hrs hold hgp hx')
end Ob
/-! part W4e -/
namespace Ob
open PySem L2
local macro_rules | `(tactic| walk_at "wp") => `(tactic| simp only [q_wpE_c, q_wpE_slot, q_wpE_bin, q_wpE_neg, q_wpE_not, q_wpE_or, q_wpE_and, q_wpE_cmp, q_wpE_chain, q_wpE_ife, q_wpE_tup, q_wpE_lst, q_wpE_ix, q_wpE_cut, q_att, blD_eq, mvD_eq, ndD_eq, sq_pD, sq_lm, is_non, is_bl, is_int, is_lst, eq_nn, in_bl, in_lst, decide_true, am_1, am_2, am_3, ar_7, ar_2, ar_8, ar_9, ag_7, ag_2, ag_10, ag_8, ag_9, ck_n, ck_n1, cl_i, cl_i1, cl_n1, ci_t, ci_l, cn_t, cn_l, q_wpE_len, q_wpE_list, q_wpE_tuple, q_wpE_sum, q_wpE_min1, q_wpE_min2, q_wpE_int, q_wpE_all, q_wpE_sset, q_wpE_mdict, q_wpE_isi, q_wpE_pop, q_wpE_app, q_wpE_exd, q_wpE_call, q_wpE_meth, q_wpE_new, q_wpE_fz, q_wpE_bor, q_wpA_nil, q_wpA_cons, q_wpA_star, q_wpT_tv, q_wpT_tnot, q_wpT_tand, q_wpT_tor, q_wpT_noE, q_wpO_noE, q_wpO_tv, q_wpI_iSeq, q_wpI_iRan, q_wpI_iRan2, q_wpI_iEnum, q_wpI_iZip, q_wpI_iRev, e_lc, wpG, wpG.wpGs, wipeD, List.map_cons, List.map_nil, List.append_nil, List.cons_append, List.nil_append, List.replicate, List.length_cons, List.length_nil, List.length_map, Nat.reduceSub, Nat.reduceAdd, tN, enum_map,
  List.set_cons_zero, List.set_cons_succ, List.getElem?_cons_zero, List.getElem?_cons_succ, Option.some.injEq, Dt.int.injEq, Dt.bl.injEq, Dt.lst.injEq, Dt.tup.injEq, Dt.ins.injEq, Dt.adr.injEq, Cell.lst.injEq, Cell.ins.injEq, exists_eq_right, exists_eq_right', Prod.mk.injEq, exists_eq_left', exists_eq_left, exists_and_left, exists_eq', exists_eq, true_and, and_true, List.cons.injEq, and_self, and_assoc,
  bk_addi, bk_sub, bk_mul, bk_mod, bk_div, bk_pow, bk_cat, bk_rep, nk_f, nk_t, sq_lst, sq_tup, sq_pr, ls_lst, fz_lst, fz_tup, ts_non, ts_bl, ts_pr, cm_lt, cm_le, cm_gt, cm_ge, cm_eq, cm_ne, cm_eqb, cm_neb, cm_is, cm_isn, in_non, in_int, in_pr, in_o, in_oi, gt_hd, pt_hd, dl_hd,
  at_0, at_1, at_2, at_3, at_4, oD_n, oD_s, oi_n, oi_s, Option.isNone_none, Option.isNone_some, lim_0, lim_1, lim_2, lim_3, lim_4, lim_5, lim_6, lim_7, Int.natCast_nonneg, Int.ofNat_le, Bool.not_true, Bool.true_or, Bool.false_or, Bool.or_true, Bool.or_false, Bool.true_and, Bool.false_and, Bool.and_true, Bool.and_false, List.contains_cons, List.contains_nil, Nat.reduceBEq, Bool.not_false, Bool.true_eq_false, Bool.false_eq_true, false_imp_iff, true_imp_iff, reduceCtorEq, forall_const, Nat.reduceLT, Nat.reduceLeDiff, eq_self, forall_eq', forall_eq])
local macro_rules | `(tactic| walk_at "go") => `(tactic| (try dsimp only); (try walk_at "wp"); repeat (first | refine seq_i ?_ | (refine asg_i ?_; try walk_at "wp") | (refine drop_i ?_; try walk_at "wp") | (refine ret_i ?_; try walk_at "wp") | (refine forr_i ?_; try walk_at "wp") | (refine iff_i ?_; try walk_at "wp") | (refine seti_i ?_; try walk_at "wp") | (refine augi_i ?_; try walk_at "wp") | (refine seta_i ?_; try walk_at "wp") | (refine skip_i ?_; try walk_at "wp")))
/-! Walks: made, moved, same. -/
theorem d_lmade (F : Nat → FS) (h15 : F 15 = S_Machine_init) : Does F 1 1 b_law_made S_lmade := by
  rintro ds u K ⟨q, rfl, hq, k⟩
  refine ⟨rfl, ?_⟩
  simp only [st0]
  unfold b_law_made
  walk_at "go"
  intro p hp
  rw [h15]
  refine ⟨p, q, u, rfl, rfl, hq, fun m hm => ?_⟩
  walk_at "go"
  exact keepK (k m hm)
theorem hasN_put {u : Mu} {p : Addr} {ns ms : List Int} (h : get u p = some (.lst (ns.map .int))) (hl : ms.length = ns.length) : ∀ q k, HasN u q k → HasN (put u p (.lst (ms.map .int))) q k := by
  rintro q k ⟨xs, h1, h2⟩
  by_cases e : p = q
  · subst e
    rw [h] at h2
    have h3 : ns.map Dt.int = xs.map Dt.int := by
      have h4 := Option.some.inj h2
      simpa using h4
    have h5 := congrArg List.length h3
    rw [List.length_map, List.length_map] at h5
    exact ⟨ms, by omega, get_put h⟩
  · exact ⟨xs, h1, by rw [get_put_ne e]; exact h2⟩
theorem mod_pos {i n : Int} (h : 0 < n) : 0 < n := h
theorem d_lmoved (F : Nat → FS) : Does F 7 6 b_law_moved S_lmoved := by
  rintro ds u K ⟨ps, ms, po, pr, L, n, a, b, c, d, rfl, hL1, hL3, hn1, hn3, ha, hb, hc, hd, hps, hms, hp, hm, ho, hr, k⟩
  refine ⟨rfl, ?_⟩
  obtain ⟨p0, ps', rfl⟩ : ∃ p0 ps', ps = p0 :: ps' := by
    cases ps with
    | nil => exact absurd rfl hps
    | cons p0 ps' => exact ⟨_, _, rfl⟩
  obtain ⟨m0, hm0⟩ : ∃ m0, ms.getLast? = some m0 := ⟨_, List.getLast?_eq_getLast hms⟩
  have hmm : m0 ∈ ms := List.mem_of_getLast? hm0
  have hlast : (ms.map Dt.adr).getLast? = some (.adr m0) := by rw [List.getLast?_map, hm0]; rfl
  have one : ∀ {u2 : Mu} {q : Addr} {k : Nat}, 1 ≤ k → HasN u2 q k → ∃ (i : Int) (is : List Int), get u2 q = some (.lst (.int i :: is.map .int)) ∧ (∀ j, ∀ q' k', HasN u2 q' k' → HasN (put u2 q (.lst (.int j :: is.map .int))) q' k') := by
    rintro u2 q k hk ⟨xs, h1, h2⟩
    cases xs with
    | nil => simp at h1; omega
    | cons i is => exact ⟨i, is, h2, fun j => hasN_put (ns := i :: is) (ms := j :: is) h2 rfl⟩
  simp only [st0]
  unfold b_law_moved
  walk_at "go"
  refine ⟨_, at_m1 hlast, ?_⟩
  walk_at "go"
  have e : [Dt.adr p0, Dt.adr m0] = [p0, m0].map .adr := rfl
  rw [e]
  refine for_I (fun i l2 u2 => (∀ q k, HasN u q k → HasN u2 q k) ∧ ∃ a, l2 = [some (.lst ((p0 :: ps').map .adr)), some (.adr po), some (.adr pr), some (.lst (ms.map .adr)), some (.int L), some (.int n), a]) ⟨fun q k h => h, _, rfl⟩ ?_ ?_
  · rintro i x l2 u2 hx ⟨hu, a1, rfl⟩
    have hx2 : ∃ k, 1 ≤ k ∧ HasN u2 x k := by
      have hm3 := List.mem_of_getElem? hx
      simp only [List.mem_cons, List.not_mem_nil, or_false] at hm3
      rcases hm3 with h | h
      · subst h
        exact ⟨a, ha, hu _ _ (hp _ List.mem_cons_self)⟩
      · subst h
        exact ⟨b, hb, hu _ _ (hm _ hmm)⟩
    obtain ⟨kx, hk1, hkx⟩ := hx2
    obtain ⟨j, js, hg, hput⟩ := one hk1 hkx
    walk_at "go"
    rw [sq_adr hg]
    walk_at "go"
    refine ⟨_, hg, 0, by simp [ixN], ?_⟩
    exact fun q k h => hput _ _ _ (hu _ _ h)
  · rintro l4 u4 ⟨hu, a1, rfl⟩
    obtain ⟨j, js, hg, hput⟩ := one hc (hu _ _ ho)
    walk_at "go"
    rw [sq_adr hg]
    walk_at "go"
    simp only [Dt.int.injEq, exists_eq_left', reduceCtorEq, false_and, exists_false, or_false]
    refine ⟨by omega, ?_⟩
    walk_at "go"
    refine ⟨_, hg, 0, by simp [ixN], ?_⟩
    walk_at "go"
    obtain ⟨j2, js2, hg2, hput2⟩ := one hd (hput ((j + 1) % n) _ _ (hu _ _ hr))
    rw [sq_adr hg2]
    walk_at "go"
    simp only [Dt.int.injEq, exists_eq_left', reduceCtorEq, false_and, exists_false, or_false]
    refine ⟨by omega, ?_⟩
    walk_at "go"
    refine ⟨_, hg2, 0, by simp [ixN], ?_⟩
    exact keepK (k _ fun q k h => hput2 _ _ _ (hput _ _ _ (hu _ _ h)))
end Ob
/-! part W9 -/
namespace Ob
open PySem L2
local macro_rules | `(tactic| walk_at "wp") => `(tactic| simp only [q_wpE_c, q_wpE_slot, q_wpE_bin, q_wpE_neg, q_wpE_not, q_wpE_or, q_wpE_and, q_wpE_cmp, q_wpE_chain, q_wpE_ife, q_wpE_tup, q_wpE_lst, q_wpE_ix, q_wpE_cut, q_att, blD_eq, mvD_eq, ndD_eq, sq_pD, sq_lm, is_non, is_bl, is_int, is_lst, eq_nn, in_bl, in_lst, decide_true, am_1, am_2, am_3, ar_7, ar_2, ar_8, ar_9, ag_7, ag_2, ag_10, ag_8, ag_9, ck_n, ck_n1, cl_i, cl_i1, cl_n1, ci_t, ci_l, cn_t, cn_l, q_wpE_len, q_wpE_list, q_wpE_tuple, q_wpE_sum, q_wpE_min1, q_wpE_min2, q_wpE_int, q_wpE_all, q_wpE_sset, q_wpE_mdict, q_wpE_isi, q_wpE_pop, q_wpE_app, q_wpE_exd, q_wpE_call, q_wpE_meth, q_wpE_new, q_wpE_fz, q_wpE_bor, q_wpA_nil, q_wpA_cons, q_wpA_star, q_wpT_tv, q_wpT_tnot, q_wpT_tand, q_wpT_tor, q_wpT_noE, q_wpO_noE, q_wpO_tv, q_wpI_iSeq, q_wpI_iRan, q_wpI_iRan2, q_wpI_iEnum, q_wpI_iZip, q_wpI_iRev, e_lc, wpG, wpG.wpGs, wipeD, List.map_cons, List.map_nil, List.append_nil, List.cons_append, List.nil_append, List.replicate, List.length_cons, List.length_nil, List.length_map, Nat.reduceSub, Nat.reduceAdd, tN, enum_map,
  List.set_cons_zero, List.set_cons_succ, List.getElem?_cons_zero, List.getElem?_cons_succ, Option.some.injEq, Dt.int.injEq, Dt.bl.injEq, Dt.lst.injEq, Dt.tup.injEq, Dt.ins.injEq, Dt.adr.injEq, Cell.lst.injEq, Cell.ins.injEq, exists_eq_right, exists_eq_right', Prod.mk.injEq, exists_eq_left', exists_eq_left, exists_and_left, exists_eq', exists_eq, true_and, and_true, List.cons.injEq, and_self, and_assoc,
  bk_addi, bk_sub, bk_mul, bk_mod, bk_div, bk_pow, bk_cat, bk_rep, nk_f, nk_t, sq_lst, sq_tup, sq_pr, ls_lst, fz_lst, fz_tup, ts_non, ts_bl, ts_pr, cm_lt, cm_le, cm_gt, cm_ge, cm_eq, cm_ne, cm_eqb, cm_neb, cm_is, cm_isn, in_non, in_int, in_pr, in_o, in_oi, gt_hd, pt_hd, dl_hd,
  at_0, at_1, at_2, at_3, at_4, oD_n, oD_s, oi_n, oi_s, Option.isNone_none, Option.isNone_some, lim_0, lim_1, lim_2, lim_3, lim_4, lim_5, lim_6, lim_7, Int.natCast_nonneg, Int.ofNat_le, Bool.not_true, Bool.true_or, Bool.false_or, Bool.or_true, Bool.or_false, Bool.true_and, Bool.false_and, Bool.and_true, Bool.and_false, List.contains_cons, List.contains_nil, Nat.reduceBEq, Bool.not_false, Bool.true_eq_false, Bool.false_eq_true, false_imp_iff, true_imp_iff, reduceCtorEq, forall_const, Nat.reduceLT, Nat.reduceLeDiff, eq_self, forall_eq', forall_eq])
local macro_rules | `(tactic| walk_at "go") => `(tactic| (try dsimp only); (try walk_at "wp"); repeat (first | refine seq_i ?_ | (refine asg_i ?_; try walk_at "wp") | (refine drop_i ?_; try walk_at "wp") | (refine ret_i ?_; try walk_at "wp") | (refine forr_i ?_; try walk_at "wp") | (refine iff_i ?_; try walk_at "wp") | (refine seti_i ?_; try walk_at "wp") | (refine augi_i ?_; try walk_at "wp") | (refine seta_i ?_; try walk_at "wp") | (refine skip_i ?_; try walk_at "wp")))
def S_law2 : FS := fun ds u K => ∃ ns : List Int, ds = [.scr ns] ∧ K (.bl true) []
/-- the mathematics that the law asks -/
structure Math : Prop where
  tree : ∀ (m : Mac) (q : Lm) (t : Tr) (P : List (List Int)) (f : Option Int) (old : List Int), Same2 m q → q.Ok → t.size ≤ 4 → P.length = t.size → (∀ r ∈ P, r.length = q.n) → old.length = t.size → toldT m t P f old = dueT q t P f old
  ring : ∀ (m : Mac) (q : Lm) (ring : List Int) (P : List (List Int)) (f : Option Int), Same2 m q → q.Ok → 1 ≤ ring.length → ring.length ≤ 4 → P.length = ring.length → (∀ r ∈ P, r.length = q.n) → toldR m ring P f = dueR q ring P f
/-- all but p is as it was -/
def Kp (p : Addr) (u u' : Mu) : Prop := ∀ q c, q ≠ p → get u q = some c → get u' q = some c
theorem Kp.trans {p : Addr} {a b c : Mu} (h : Kp p a b) (k : Kp p b c) : Kp p a c := fun q x n g => k q x n (h q x n g)
theorem Kp.upd (p : Addr) (u : Mu) (c : Cell) : Kp p u (put u p c) := fun q x n g => by rw [get_put_ne (Ne.symm n)]; exact g
theorem Kp.new {p q : Addr} {u : Mu} {c : Cell} (h : q ∉ adrs u) : Kp p u ((q, c) :: u) := fun r x n g => by rw [gt_tl _ (ne_fresh g h)]; exact g
theorem HasN.kp {p q : Addr} {u u' : Mu} {k : Nat} (h : HasN u q k) (n : q ≠ p) (kk : Kp p u u') : HasN u' q k := h.keep fun c hc => kk q c n hc
theorem at_f {v : Nat} (h : (v : Int) < 3) : ∃ f : Option Int, atI [Dt.non, Dt.int 1, Dt.int 4] (v : Int) = some (oiD f) := by
  match v, h with
  | 0, _ => exact ⟨none, rfl⟩
  | 1, _ => exact ⟨some 1, rfl⟩
  | 2, _ => exact ⟨some 4, rfl⟩
  | v + 3, h => omega
theorem askD_eq (t : Tr) (ps : List Addr) (f : Option Int) (po pr : Addr) (ms : List Addr) : askD ⟨t, ps, f, po, pr, ms⟩ = .tup [treeD t, .lst (ps.map .adr), oiD f, .adr po, .adr pr, .lst (ms.map .adr)] := rfl
theorem hasN_draw {u : Mu} {p : Addr} {vs : List Nat} : HasN ((p, .lst (vs.map natD)) :: u) p vs.length := ⟨vs.map fun (v : Nat) => (v : Int), by rw [List.length_map], by rw [gt_hd, List.map_map]; rfl⟩
theorem d_law (F : Nat → FS) (M : Math) (b : Nat) (hb : 4 ≤ b) (h22 : F 22 = S_pool) (h23 : F 23 = S_draw) (h24 : F 24 = S_same 5) (h25 : F 25 = S_lmachine) (h27 : F 27 = S_lnodes b) (h29 : F 29 = S_lshape) (h32 : F 32 = S_lmade) (h33 : F 33 = S_lprices) (h42 : F 42 = S_ltree_due) (h43 : F 43 = S_ltree_told) (h44 : F 44 = S_lring_due) (h45 : F 45 = S_lring_told) (h46 : F 46 = S_lmoved) : Does F 18 1 b_law S_law2 := by
  rintro ds u K ⟨ns, rfl, k⟩
  refine ⟨rfl, ?_⟩
  simp only [st0]
  unfold b_law
  walk_at "go"
  rw [h22]
  refine ⟨ns, 0, rfl, fun p x hp hx => ?_⟩
  walk_at "go"
  rw [h23]
  refine ⟨p, 3, x, rfl, gt_hd _ _, hx, by decide, by decide, fun v1 x1 hv1 hx1 => ?_⟩
  rw [pt_hd]
  walk_at "go"
  rw [h23]
  refine ⟨p, 3, x1, rfl, gt_hd _ _, hx1, by decide, by decide, fun v2 x2 hv2 hx2 => ?_⟩
  rw [pt_hd]
  rw [show (1 : Int) + (v1 : Int) = ((v1 + 1 : Nat) : Int) by omega]
  walk_at "go"
  rw [show (1 : Int) + (v2 : Int) = ((v2 + 1 : Nat) : Int) by omega]
  obtain ⟨L, hL⟩ : ∃ L, L = v1 + 1 := ⟨_, rfl⟩
  obtain ⟨n, hn⟩ : ∃ n, n = v2 + 1 := ⟨_, rfl⟩
  rw [← hL, ← hn]
  have hL1 : 1 ≤ L ∧ L ≤ 3 := by omega
  have hn1 : 1 ≤ n ∧ n ≤ 3 := by omega
  clear hL hn hv1 hv2 v1 v2 hx hx1 x x1
  refine ⟨by decide, by decide, ?_⟩
  refine lc_I (xs := List.range (Int.toNat 2)) (fun i acc u2 => ∃ (qs : List Lm) (x' : List Dt), acc = qs.map lmD ∧ qs.length = i ∧ (∀ q ∈ qs, q.Ok ∧ q.n = n) ∧ PoolL x' ∧ u2 = (p, .lst x') :: u) ⟨[], x2, rfl, rfl, by simp, hx2, rfl⟩ (by rw [List.length_range]; decide) ?_ ?_
  · rintro i y acc u2 hy ⟨qs, x', rfl, hql, hqo, hx', rfl⟩
    walk_at "go"
    rw [h25]
    refine ⟨p, L, n, x', rfl, hL1.1, hL1.2, hn1.1, hn1.2, gt_hd _ _, hx', fun q x3 qo e1 e2 hx3 => ?_⟩
    rw [pt_hd]
    refine ⟨qs ++ [q], by simp, by simp [hql], ?_, x3, hx3, rfl⟩
    intro q' hq'
    rw [List.mem_append, List.mem_singleton] at hq'
    rcases hq' with hq' | hq'
    · exact hqo q' hq'
    · subst hq'
      exact ⟨qo, e2⟩
  rintro acc u2 ⟨qs, x3, rfl, hql, hqo, hx3, rfl⟩
  rw [List.length_range] at hql
  have hql : qs.length = 2 := hql
  walk_at "go"
  refine lc_I (xs := qs) (enc := lmD) (fun i acc u2 => ∃ ms : List Mac, acc = ms.map macD ∧ ms.length = i ∧ (∀ (j : Nat) (m : Mac) (q : Lm), ms[j]? = some m → qs[j]? = some q → Same2 m q) ∧ u2 = (p, .lst x3) :: u) ⟨[], rfl, rfl, by simp, rfl⟩ (by rw [hql]; decide) ?_ ?_
  · rintro i q acc u2 hq ⟨ms, rfl, hml, hms, rfl⟩
    walk_at "go"
    rw [h32]
    refine ⟨q, rfl, (hqo q (List.mem_of_getElem? hq)).1, fun m hm => ?_⟩
    refine ⟨ms ++ [m], by simp, by simp [hml], ?_, rfl⟩
    intro j m' q' hj hq'
    by_cases hjl : j < ms.length
    · rw [List.getElem?_append_left hjl] at hj
      exact hms j m' q' hj hq'
    · rw [List.getElem?_append_right (by omega)] at hj
      have hj0 : j - ms.length = 0 := by
        cases h3 : j - ms.length with
        | zero => rfl
        | succ n => rw [h3] at hj; cases hj
      rw [hj0] at hj
      cases hj
      have hji : j = i := by omega
      subst hji
      rw [hq] at hq'
      cases hq'
      exact hm
  rintro acc u2 ⟨ms, rfl, hml, hms, rfl⟩
  rw [hql] at hml
  walk_at "go"
  intro pa hpa
  have npa : pa ≠ p := fun e => hpa (by rw [e]; exact List.mem_cons_self)
  walk_at "go"
  refine ⟨by decide, by decide, ?_⟩
  refine for_I (xs := List.range (Int.toNat 2)) (fun i l2 u2 => ∃ (asks : List Ask) (x' : List Dt), asks.length ≤ i ∧ get u2 p = some (.lst x') ∧ PoolL x' ∧ get u2 pa = some (.lst (asks.map askD)) ∧ (∀ a ∈ asks, AskOk u2 n a) ∧
      ∃ a7 a8 a9 a10 a11 a12 a13 a14 a15 a16 a17, l2 = [some (.scr ns), some (.adr p), some (.int L), some (.int n), some (.lst (qs.map lmD)), some (.lst (ms.map macD)), some (.adr pa), a7, a8, a9, a10, a11, a12, a13, a14, a15, a16, a17])
    ⟨[], x3, by simp, gt_tl _ npa |>.trans (gt_hd _ _), hx3, gt_hd _ _, by simp, _, _, _, _, _, _, _, _, _, _, _, rfl⟩ ?_ ?_
  · rintro i y l2 u2 hy ⟨asks, x', hal, hgp, hx', hga, hask, a7, a8, a9, a10, a11, a12, a13, a14, a15, a16, a17, rfl⟩
    walk_at "go"
    rw [h29]
    refine ⟨p, L, x', rfl, hL1.1, hL1.2, hgp, hx', fun t x4 ht hx4 => ?_⟩
    walk_at "go"
    rw [h27]
    refine ⟨t, rfl, by omega, ?_⟩
    walk_at "go"
    rw [h23]
    refine ⟨p, 4, x4, rfl, get_put hgp, hx4, by decide, by decide, fun v5 x5 hv5 hx5 => ?_⟩
    rw [put_put]
    walk_at "go"
    rw [show (1 : Int) + (v5 : Int) = ((v5 + 1 : Nat) : Int) by omega]
    refine ⟨by omega, by omega, ?_⟩
    refine lc_draw h23 (p := p) (n := L) (x := x5) (by omega) (by omega) (by omega) (get_put hgp) hx5 ?_ ?_
    · intro j u2 Q hq
      walk_at "go"
      exact hq
    intro vs x6 hvl hvn hx6
    rw [put_put]
    have k4 : Kp p u2 (put u2 p (.lst x6)) := Kp.upd _ _ _
    have g4 : get (put u2 p (.lst x6)) p = some (.lst x6) := get_put hgp
    generalize put u2 p (.lst x6) = u4 at k4 g4
    walk_at "go"
    intro pr hpr
    have k5 : Kp p u2 ((pr, .lst (vs.map natD)) :: u4) := k4.trans (Kp.new hpr)
    have g5 : get ((pr, .lst (vs.map natD)) :: u4) p = some (.lst x6) := by rw [gt_tl _ (ne_fresh g4 hpr)]; exact g4
    have hr5 : HasN ((pr, .lst (vs.map natD)) :: u4) pr vs.length := hasN_draw
    have npr : pr ≠ p := ne_fresh g4 hpr
    generalize (pr, Cell.lst (vs.map natD)) :: u4 = u5 at k5 g5 hr5
    walk_at "go"
    refine ⟨_, k5 _ _ npa hga, ?_⟩
    rw [h33]
    refine ⟨p, (nodes t).length, n, x6, rfl, by rw [nodes_len]; omega, by omega, g5, hx6, fun ps u6 x7 hps1 hps2 hold6 g6 hx7 => ?_⟩
    have k56 : Kp p u5 u6 := fun q c nq hg => by rw [hold6 q nq (get_adr hg)]; exact hg
    have k6 := k5.trans k56
    have hr6 := hr5.kp npr k56
    walk_at "go"
    rw [h23]
    refine ⟨p, 3, x7, rfl, g6, hx7, by decide, by decide, fun v8 x8 hv8 hx8 => ?_⟩
    obtain ⟨f, hf⟩ := at_f hv8
    walk_at "go"
    refine ⟨_, hf, ?_⟩
    walk_at "go"
    refine ⟨by rw [nodes_len]; omega, ?_⟩
    refine lc_draw h23 (p := p) (n := n) (x := x8) (by rw [nodes_len]; omega) (by omega) (by omega) (get_put g6) hx8 ?_ ?_
    · intro j u2 Q hq
      walk_at "go"
      exact hq
    intro vo x9 hol hvo hx9
    rw [put_put]
    have k8' : Kp p u6 (put u6 p (.lst x9)) := Kp.upd _ _ _
    have g8 : get (put u6 p (.lst x9)) p = some (.lst x9) := get_put g6
    generalize put u6 p (.lst x9) = u8 at k8' g8
    walk_at "go"
    intro po hpo
    have k9' : Kp p u6 ((po, .lst (vo.map natD)) :: u8) := k8'.trans (Kp.new hpo)
    have g9 : get ((po, .lst (vo.map natD)) :: u8) p = some (.lst x9) := by rw [gt_tl _ (ne_fresh g8 hpo)]; exact g8
    have ho9 : HasN ((po, .lst (vo.map natD)) :: u8) po vo.length := hasN_draw
    have npo : po ≠ p := ne_fresh g8 hpo
    generalize (po, Cell.lst (vo.map natD)) :: u8 = u9 at k9' g9 ho9
    have hr9 := hr6.kp npr k9'
    obtain ⟨ringL, hrl1, hrl2⟩ := hr9
    walk_at "go"
    rw [sq_adr hrl2]
    walk_at "go"
    refine ⟨p, ringL.length, n, x9, rfl, by omega, by omega, g9, hx9, fun ms2 u10 x10 hms1 hms2 hold10 g10 hx10 => ?_⟩
    have k10' : Kp p u9 u10 := fun q c nq hg => by rw [hold10 q nq (get_adr hg)]; exact hg
    have k610 := k9'.trans k10'
    have k10 := k6.trans k610
    have hga10 := k10 _ _ npa hga
    walk_at "go"
    refine ⟨_, hga10, by rw [List.length_map]; have := (range_get hy).2; have h3 : (Int.toNat 2) = 2 := rfl; simp only [LIM]; omega, asks ++ [⟨t, ps, f, po, pr, ms2⟩], by simp; omega, x10, by rw [get_put_ne npa]; exact g10, hx10, by rw [get_put hga10]; simp [askD_eq], ?_⟩
    have kfin : ∀ q k, 1 ≤ k → HasN u10 q k → HasN (put u10 pa (.lst (asks.map askD ++ [.tup [treeD t, .lst (ps.map .adr), oiD f, .adr po, .adr pr, .lst (ms2.map .adr)]]))) q k := fun q k hk h => h.keep fun c hc => by
      rw [get_put_ne (Ne.symm (asks_no hga10 hk h))]
      exact hc
    have hold2 : ∀ a ∈ asks, AskOk u10 n a := fun a ha => (hask a ha).mono hn1.1 fun q k hk h => h.kp (pool_no hgp hx' h) k10
    have hps6 : ∀ r ∈ ps, HasN u6 r n := fun r hr => by
      obtain ⟨ns', h1, h2⟩ := hps2 r hr
      exact ⟨ns', h1, h2⟩
    have hnew : AskOk u10 n ⟨t, ps, f, po, pr, ms2⟩ := ⟨ht, by rw [← nodes_len]; exact hps1, fun r hr => (hps6 r hr).kp (pool_no g6 hx7 (hps6 r hr)) k610, by
        have h3 := ho9.kp npo k10'
        rw [hol, nodes_len] at h3
        exact h3, ⟨ringL.length, by omega, by omega, (show HasN u9 pr ringL.length from ⟨ringL, rfl, hrl2⟩).kp npr k10', hms1⟩, fun r hr => by
      obtain ⟨ns', h1, h2⟩ := hms2 r hr
      exact ⟨ns', h1, h2⟩⟩
    intro a ha
    rw [List.mem_append, List.mem_singleton] at ha
    rcases ha with ha | ha
    · exact (hold2 a ha).mono hn1.1 kfin
    · subst ha
      exact hnew.mono hn1.1 kfin
  · rintro l4 u4 ⟨asks, x', hal, hgp, hx', hga, hask, a7, a8, a9, a10, a11, a12, a13, a14, a15, a16, a17, rfl⟩
    rw [List.length_range] at hal
    refine seq_i ?_
    refine seq_i ?_
    refine frz_i ⟨.adr pa, rfl, ?_⟩
    rw [fz2_cell hga (no_map _ (fun _ => rfl) _)]
    have hask2 : ∀ a ∈ asks, AskOk (del u4 pa) n a := fun a ha => (hask a ha).mono hn1.1 fun q k hk h => h.keep fun c hc => by rw [get_del_ne (Ne.symm (asks_no hga hk h))]; exact hc
    generalize del u4 pa = u5 at hask2
    clear hask hga hgp
    walk_at "go"
    refine ⟨by decide, by decide, ?_⟩
    refine for_I (xs := List.range (Int.toNat 2)) (fun i l2 u2 => (∀ a ∈ asks, AskOk u2 n a) ∧
      ∃ a7 a8 a9 a10 a11 a12 a13 a14 a15 a16 a17, l2 = [some (.scr ns), some (.adr p), some (.int L), some (.int n), some (.lst (qs.map lmD)), some (.lst (ms.map macD)), some (.lst (asks.map askD)), a7, a8, a9, a10, a11, a12, a13, a14, a15, a16, a17])
      ⟨hask2, _, _, _, _, _, _, _, _, _, _, _, rfl⟩ ?_ ?_
    · rintro i y l2 u2 hy ⟨hask, a7, a8, a9, a10, a11, a12, a13, a14, a15, a16, a17, rfl⟩
      walk_at "go"
      refine ⟨by decide, by decide, ?_⟩
      refine for_I (xs := List.range (Int.toNat 2)) (fun i l2 u3 => u3 = u2 ∧
        ∃ a7 a8 a9 a10 a11 a12 a13 a14 a15 a16 a17, l2 = [some (.scr ns), some (.adr p), some (.int L), some (.int n), some (.lst (qs.map lmD)), some (.lst (ms.map macD)), some (.lst (asks.map askD)), a7, a8, a9, a10, a11, a12, a13, a14, a15, a16, a17])
        ⟨rfl, _, _, _, _, _, _, _, _, _, _, _, rfl⟩ ?_ ?_
      · rintro i2 x l3 u3 hx ⟨rfl, a7, a8, a9, a10, a11, a12, a13, a14, a15, a16, a17, rfl⟩
        obtain ⟨rfl, hx2⟩ := range_get hx
        have hx2 : x < 2 := hx2
        obtain ⟨m, hm⟩ := get_ex (xs := ms) (i := x) (by omega)
        obtain ⟨q, hq⟩ := get_ex (xs := qs) (i := x) (by omega)
        have hsame := hms x m q hm hq
        obtain ⟨qo, qn⟩ := hqo q (List.mem_of_getElem? hq)
        obtain ⟨mo, hm10⟩ := mac_ok hsame qo
        have mn : m.n = n := by rw [hsame.n, qn]
        walk_at "go"
        refine for_I (xs := asks) (enc := askD) (fun i l2 u4 => u4 = u3 ∧
          ∃ a7 a8 a9 a10 a11 a13 a14 a15 a16 a17, l2 = [some (.scr ns), some (.adr p), some (.int L), some (.int n), some (.lst (qs.map lmD)), some (.lst (ms.map macD)), some (.lst (asks.map askD)), a7, a8, a9, a10, a11, some (.int (x : Nat)), a13, a14, a15, a16, a17])
          ⟨rfl, _, _, _, _, _, _, _, _, _, _, rfl⟩ ?_ ?_
        · rintro i3 ⟨t, ps, f, po, pr, ms2⟩ l4 u4 ha ⟨rfl, a7, a8, a9, a10, a11, a13, a14, a15, a16, a17, rfl⟩
          have hao := hask _ (List.mem_of_getElem? ha)
          obtain ⟨P, hP1, hP2, hP3⟩ := res_rows ps hao.ps
          obtain ⟨Q, hQ1, hQ2, hQ3⟩ := res_rows ms2 hao.ms
          obtain ⟨old, ho1, ho2⟩ := res_cell hao.old
          obtain ⟨d, hd1, hd2, hd3, hd4⟩ := hao.ring
          obtain ⟨ring, hr1, hr2⟩ := res_cell hd3
          have hpsl := hao.psl
          have htz := hao.size
          simp only at hpsl htz hd4 hr2 ho2 ho1
          have r4 : res u4 (.lst (qs.map lmD)) = .lst (qs.map lmD) := res_noA _ _ (noAL_map _ noA_lm qs)
          have r5 : res u4 (.lst (ms.map macD)) = .lst (ms.map macD) := res_noA _ _ (noAL_map _ noA_mac ms)
          have r8 : res u4 (treeD t) = treeD t := res_noA _ _ (noA_tree t)
          have r13 : res u4 (.lst (ps.map .adr)) = pD P := by
            show Dt.lst (resL u4 (ps.map .adr)) = _
            rw [hP3]
            rfl
          have r16 : res u4 (.lst (ms2.map .adr)) = pD Q := by
            show Dt.lst (resL u4 (ms2.map .adr)) = _
            rw [hQ3]
            rfl
          have r14 : res u4 (oiD f) = oiD f := by cases f <;> rfl
          have r12 : res u4 (.int (x : Nat)) = .int (x : Nat) := rfl
          rw [askD_eq]
          walk_at "go"
          try simp only [Option.map_some, r4, r5, r8, r13, r14, ho2, hr2, r16, r12]
          walk_at "go"
          refine ⟨_, at_map _ hm, ?_⟩
          rw [h43]
          refine ⟨m, t, P, f, old, rfl, rfl, mo, hm10, htz, by omega, fun r hr => by rw [mn]; exact hP2 r hr, ho1, fun u' => ?_⟩
          walk_at "go"
          try simp only [Option.map_some, r4, r5, r8, r13, r14, ho2, hr2, r16, r12]
          walk_at "go"
          refine ⟨_, at_map _ hq, ?_⟩
          rw [h42]
          refine ⟨q, t, P, f, old, rfl, qo, htz, by omega, fun r hr => by rw [qn]; exact hP2 r hr, ho1, ?_⟩
          rw [h24, ← M.tree m q t P f old hsame qo htz (by omega) (fun r hr => by rw [qn]; exact hP2 r hr) ho1]
          refine ⟨toldT m t P f old, rfl, pl_told mo htz, rfl, ?_⟩
          walk_at "go"
          try simp only [Option.map_some, r4, r5, r8, r13, r14, ho2, hr2, r16, r12]
          walk_at "go"
          refine ⟨_, at_map _ hm, ?_⟩
          have hpo : PrOk m ring Q := ⟨mo, by omega, by omega, by omega, fun r hr => by rw [mn]; exact hQ2 r hr⟩
          rw [h45]
          refine ⟨m, ring, Q, f, rfl, rfl, hpo, fun u' => ?_⟩
          walk_at "go"
          try simp only [Option.map_some, r4, r5, r8, r13, r14, ho2, hr2, r16, r12]
          walk_at "go"
          refine ⟨_, at_map _ hq, ?_⟩
          rw [h44]
          refine ⟨q, ring, Q, f, rfl, qo, by omega, by omega, by omega, fun r hr => by rw [qn]; exact hQ2 r hr, ?_⟩
          rw [h24, ← M.ring m q ring Q f hsame qo (by omega) (by omega) (by omega) (fun r hr => by rw [qn]; exact hQ2 r hr)]
          refine ⟨toldR m ring Q f, rfl, pl_toldR hpo, rfl, ?_⟩
          walk_at "go"
        · rintro l5 u5 ⟨rfl, a7, a8, a9, a10, a11, a13, a14, a15, a16, a17, rfl⟩
          walk_at "go"
      · rintro l5 u6 ⟨rfl, a7, a8, a9, a10, a11, a12, a13, a14, a15, a16, a17, rfl⟩
        walk_at "go"
        refine for_I (xs := asks) (enc := askD) (fun i l2 u4 => (∀ a ∈ asks, AskOk u4 n a) ∧
          ∃ a7 a8 a9 a10 a11 a12 a13 a14 a15 a16 a17, l2 = [some (.scr ns), some (.adr p), some (.int L), some (.int n), some (.lst (qs.map lmD)), some (.lst (ms.map macD)), some (.lst (asks.map askD)), a7, a8, a9, a10, a11, a12, a13, a14, a15, a16, a17])
          ⟨hask, _, _, _, _, _, _, _, _, _, _, _, rfl⟩ ?_ ?_
        · rintro i3 ⟨t, ps, f, po, pr, ms2⟩ l4 u4 ha ⟨hask4, a7, a8, a9, a10, a11, a12, a13, a14, a15, a16, a17, rfl⟩
          have hao := hask4 _ (List.mem_of_getElem? ha)
          obtain ⟨d, hd1, hd2, hd3, hd4⟩ := hao.ring
          have hpsl := hao.psl
          have hsz := size_pos t
          simp only at hpsl hd4
          rw [askD_eq]
          walk_at "go"
          rw [h46]
          refine ⟨ps, ms2, po, pr, L, n, n, n, t.size, d, rfl, hL1.1, hL1.2, hn1.1, hn1.2, hn1.1, hn1.1, hsz, hd1, ?_, ?_, hao.ps, hao.ms, hao.old, hd3, fun u' hu' => ?_⟩
          · intro e
            rw [e] at hpsl
            simp at hpsl
            omega
          · intro e
            rw [e] at hd4
            simp at hd4
            omega
          walk_at "go"
          exact fun a ha' => (hask4 a ha').mono hn1.1 fun q k _ h => hu' q k h
        · rintro l7 u7 ⟨hask7, a7, a8, a9, a10, a11, a12, a13, a14, a15, a16, a17, rfl⟩
          walk_at "go"
          exact hask7
    · rintro l7 u7 ⟨_, a7, a8, a9, a10, a11, a12, a13, a14, a15, a16, a17, rfl⟩
      walk_at "go"
      exact ⟨[], List.nil_sublist _, k⟩
end Ob
/-! part Xn -/
namespace Ob
open PySem L2
local macro_rules | `(tactic| walk_at "wp") => `(tactic| simp only [q_wpE_c, q_wpE_slot, q_wpE_bin, q_wpE_neg, q_wpE_not, q_wpE_or, q_wpE_and, q_wpE_cmp, q_wpE_chain, q_wpE_ife, q_wpE_tup, q_wpE_lst, q_wpE_ix, q_wpE_cut, q_att, blD_eq, mvD_eq, ndD_eq, sq_pD, sq_lm, is_non, is_bl, is_int, is_lst, eq_nn, in_bl, in_lst, decide_true, am_1, am_2, am_3, ar_7, ar_2, ar_8, ar_9, ag_7, ag_2, ag_10, ag_8, ag_9, ck_n, ck_n1, cl_i, cl_i1, cl_n1, ci_t, ci_l, cn_t, cn_l, q_wpE_len, q_wpE_list, q_wpE_tuple, q_wpE_sum, q_wpE_min1, q_wpE_min2, q_wpE_int, q_wpE_all, q_wpE_sset, q_wpE_mdict, q_wpE_isi, q_wpE_pop, q_wpE_app, q_wpE_exd, q_wpE_call, q_wpE_meth, q_wpE_new, q_wpE_fz, q_wpE_bor, q_wpA_nil, q_wpA_cons, q_wpA_star, q_wpT_tv, q_wpT_tnot, q_wpT_tand, q_wpT_tor, q_wpT_noE, q_wpO_noE, q_wpO_tv, q_wpI_iSeq, q_wpI_iRan, q_wpI_iRan2, q_wpI_iEnum, q_wpI_iZip, q_wpI_iRev, e_lc, wpG, wpG.wpGs, wipeD, List.map_cons, List.map_nil, List.append_nil, List.cons_append, List.nil_append, List.replicate, List.length_cons, List.length_nil, List.length_map, Nat.reduceSub, Nat.reduceAdd, tN, enum_map,
  List.set_cons_zero, List.set_cons_succ, List.getElem?_cons_zero, List.getElem?_cons_succ, Option.some.injEq, Dt.int.injEq, Dt.bl.injEq, Dt.lst.injEq, Dt.tup.injEq, Dt.ins.injEq, Dt.adr.injEq, Cell.lst.injEq, Cell.ins.injEq, exists_eq_right, exists_eq_right', Prod.mk.injEq, exists_eq_left', exists_eq_left, exists_and_left, exists_eq', exists_eq, true_and, and_true, List.cons.injEq, and_self, and_assoc,
  bk_addi, bk_sub, bk_mul, bk_mod, bk_div, bk_pow, bk_cat, bk_rep, nk_f, nk_t, sq_lst, sq_tup, sq_pr, ls_lst, fz_lst, fz_tup, ts_non, ts_bl, ts_pr, cm_lt, cm_le, cm_gt, cm_ge, cm_eq, cm_ne, cm_eqb, cm_neb, cm_is, cm_isn, in_non, in_int, in_pr, in_o, in_oi, gt_hd, pt_hd, dl_hd,
  at_0, at_1, at_2, at_3, at_4, oD_n, oD_s, oi_n, oi_s, Option.isNone_none, Option.isNone_some, lim_0, lim_1, lim_2, lim_3, lim_4, lim_5, lim_6, lim_7, Int.natCast_nonneg, Int.ofNat_le, Bool.not_true, Bool.true_or, Bool.false_or, Bool.or_true, Bool.or_false, Bool.true_and, Bool.false_and, Bool.and_true, Bool.and_false, List.contains_cons, List.contains_nil, Nat.reduceBEq, Bool.not_false, Bool.true_eq_false, Bool.false_eq_true, false_imp_iff, true_imp_iff, reduceCtorEq, forall_const, Nat.reduceLT, Nat.reduceLeDiff, eq_self, forall_eq', forall_eq])
local macro_rules | `(tactic| walk_at "go") => `(tactic| (try dsimp only); (try walk_at "wp"); repeat (first | refine seq_i ?_ | (refine asg_i ?_; try walk_at "wp") | (refine drop_i ?_; try walk_at "wp") | (refine ret_i ?_; try walk_at "wp") | (refine forr_i ?_; try walk_at "wp") | (refine iff_i ?_; try walk_at "wp") | (refine seti_i ?_; try walk_at "wp") | (refine augi_i ?_; try walk_at "wp") | (refine seta_i ?_; try walk_at "wp") | (refine skip_i ?_; try walk_at "wp")))
theorem all_math : Math := ⟨fun m q t P f old h qo ht hP hPr ho => tree_math m q t P f old h qo (mac_ok h qo).1 hP ho, fun m q ring P f h qo h1 h4 hP hPr => ring_math m q ring P f h (mac_ok h qo).1 h1⟩
end Ob
/-! part W5 -/
namespace Ob
open PySem L2
local macro_rules | `(tactic| walk_at "wp") => `(tactic| simp only [q_wpE_c, q_wpE_slot, q_wpE_bin, q_wpE_neg, q_wpE_not, q_wpE_or, q_wpE_and, q_wpE_cmp, q_wpE_chain, q_wpE_ife, q_wpE_tup, q_wpE_lst, q_wpE_ix, q_wpE_cut, q_att, blD_eq, mvD_eq, ndD_eq, sq_pD, sq_lm, is_non, is_bl, is_int, is_lst, eq_nn, in_bl, in_lst, decide_true, am_1, am_2, am_3, ar_7, ar_2, ar_8, ar_9, ag_7, ag_2, ag_10, ag_8, ag_9, ck_n, ck_n1, cl_i, cl_i1, cl_n1, ci_t, ci_l, cn_t, cn_l, q_wpE_len, q_wpE_list, q_wpE_tuple, q_wpE_sum, q_wpE_min1, q_wpE_min2, q_wpE_int, q_wpE_all, q_wpE_sset, q_wpE_mdict, q_wpE_isi, q_wpE_pop, q_wpE_app, q_wpE_exd, q_wpE_call, q_wpE_meth, q_wpE_new, q_wpE_fz, q_wpE_bor, q_wpA_nil, q_wpA_cons, q_wpA_star, q_wpT_tv, q_wpT_tnot, q_wpT_tand, q_wpT_tor, q_wpT_noE, q_wpO_noE, q_wpO_tv, q_wpI_iSeq, q_wpI_iRan, q_wpI_iRan2, q_wpI_iEnum, q_wpI_iZip, q_wpI_iRev, e_lc, wpG, wpG.wpGs, wipeD, List.map_cons, List.map_nil, List.append_nil, List.cons_append, List.nil_append, List.replicate, List.length_cons, List.length_nil, List.length_map, Nat.reduceSub, Nat.reduceAdd, tN, enum_map,
  List.set_cons_zero, List.set_cons_succ, List.getElem?_cons_zero, List.getElem?_cons_succ, Option.some.injEq, Dt.int.injEq, Dt.bl.injEq, Dt.lst.injEq, Dt.tup.injEq, Dt.ins.injEq, Dt.adr.injEq, Cell.lst.injEq, Cell.ins.injEq, exists_eq_right, exists_eq_right', Prod.mk.injEq, exists_eq_left', exists_eq_left, exists_and_left, exists_eq', exists_eq, true_and, and_true, List.cons.injEq, and_self, and_assoc,
  bk_addi, bk_sub, bk_mul, bk_mod, bk_div, bk_pow, bk_cat, bk_rep, nk_f, nk_t, sq_lst, sq_tup, sq_pr, ls_lst, fz_lst, fz_tup, ts_non, ts_bl, ts_pr, cm_lt, cm_le, cm_gt, cm_ge, cm_eq, cm_ne, cm_eqb, cm_neb, cm_is, cm_isn, in_non, in_int, in_pr, in_o, in_oi, gt_hd, pt_hd, dl_hd,
  at_0, at_1, at_2, at_3, at_4, oD_n, oD_s, oi_n, oi_s, Option.isNone_none, Option.isNone_some, lim_0, lim_1, lim_2, lim_3, lim_4, lim_5, lim_6, lim_7, Int.natCast_nonneg, Int.ofNat_le, Bool.not_true, Bool.true_or, Bool.false_or, Bool.or_true, Bool.or_false, Bool.true_and, Bool.false_and, Bool.and_true, Bool.and_false, List.contains_cons, List.contains_nil, Nat.reduceBEq, Bool.not_false, Bool.true_eq_false, Bool.false_eq_true, false_imp_iff, true_imp_iff, reduceCtorEq, forall_const, Nat.reduceLT, Nat.reduceLeDiff, eq_self, forall_eq', forall_eq])
local macro_rules | `(tactic| walk_at "go") => `(tactic| (try dsimp only); (try walk_at "wp"); repeat (first | refine seq_i ?_ | (refine asg_i ?_; try walk_at "wp") | (refine drop_i ?_; try walk_at "wp") | (refine ret_i ?_; try walk_at "wp") | (refine forr_i ?_; try walk_at "wp") | (refine iff_i ?_; try walk_at "wp") | (refine seti_i ?_; try walk_at "wp") | (refine augi_i ?_; try walk_at "wp") | (refine seta_i ?_; try walk_at "wp") | (refine skip_i ?_; try walk_at "wp")))
/-! Walks: lists, cost, best, least, objects. -/
theorem longer_len (n : Nat) : ∀ f : List (List Int), (longer n f).length = f.length * n
  | [] => by simp [longer]
  | x :: f => by
    have h := longer_len n f
    unfold longer at h ⊢
    rw [List.flatMap_cons, List.length_append, h, List.length_map, List.length_range, List.length_cons, Nat.add_mul]
    omega
theorem lf_len (n : Nat) : ∀ (xs : List Nat) (f : List (List Int)), (xs.foldl (fun found _ => longer n found) f).length = f.length * n ^ xs.length
  | [], f => by simp
  | x :: xs, f => by
    rw [List.foldl_cons, lf_len n xs, longer_len, List.length_cons, Nat.pow_succ, Nat.mul_assoc, Nat.mul_comm n]
theorem lf_row (n : Nat) : ∀ (xs : List Nat) (f : List (List Int)) (k : Nat), (∀ r ∈ f, r.length = k) → ∀ r ∈ xs.foldl (fun found _ => longer n found) f, r.length = k + xs.length
  | [], f, k, h, r, hr => h r hr
  | x :: xs, f, k, h, r, hr => by
    have q := lf_row n xs (longer n f) (k + 1) (fun y hy => by
      unfold longer at hy
      rw [List.mem_flatMap] at hy
      obtain ⟨z, hz, hy⟩ := hy
      rw [List.mem_map] at hy
      obtain ⟨w, _, rfl⟩ := hy
      rw [List.length_append, h z hz]
      rfl) r hr
    rw [q, List.length_cons]
    omega
theorem d_lists (F : Nat → FS) : Does F 7 2 b_law_lists S_llists := by
  rintro ds u K ⟨k, n, rfl, hk, hn, kk⟩
  refine ⟨rfl, ?_⟩
  have kk := keepK kk
  simp only [st0]
  unfold b_law_lists
  walk_at "go"
  refine ⟨by omega, ?_⟩
  refine for_f (step := fun found (_ : Nat) => longer n found) (b0 := [[]]) (fun found l2 u2 => u2 = u ∧ ∃ a b c d, l2 = [some (.int k), some (.int n), some (llD found), a, b, c, d]) ⟨rfl, _, _, _, _, rfl⟩ ?_ ?_
  · rintro i x l2 u2 hx ⟨rfl, a, b, c, d, rfl⟩
    have hik := (range_get hx).2
    have hlen := lf_len n ((List.range k).take i) [[]]
    have hrow := lf_row n ((List.range k).take i) [[]] 0 (by simp)
    rw [List.length_take, List.length_range] at hlen hrow
    generalize ((List.range k).take i).foldl (fun found (_ : Nat) => longer n found) [[]] = found at hlen hrow ⊢
    have h27 : found.length ≤ 27 := by
      have h1 : n ^ min i k ≤ 3 ^ min i k := Nat.pow_le_pow_left hn _
      have h2 : 3 ^ min i k ≤ 3 ^ 3 := Nat.pow_le_pow_right (by decide) (by omega)
      simp only [List.length_cons, List.length_nil] at hlen
      omega
    walk_at "go"
    refine for_I (F := F) (xs := found) (fun i2 l2 u3 => u3 = u2 ∧ ∃ c d, l2 = [some (.int k), some (.int n), some (llD found), some (.int x), some (llD (longer n (found.take i2))), c, d]) ⟨rfl, _, _, rfl⟩ ?_ ?_
    · rintro i2 y l3 u3 hy ⟨rfl, c, d, rfl⟩
      have hlen2 := longer_len n (found.take i2)
      rw [List.length_take] at hlen2
      have h81 : (longer n (found.take i2)).length ≤ 81 := by
        rw [hlen2]
        have h3 : min i2 found.length * n ≤ 27 * 3 := Nat.mul_le_mul (by omega) hn
        omega
      have hyl := hrow y (List.mem_of_getElem? hy)
      have e : longer n (found.take (i2 + 1)) = longer n (found.take i2) ++ (List.range n).map fun (l : Nat) => y ++ [(l : Int)] := flat_take hy
      rw [e]
      generalize longer n (found.take i2) = acc at h81 ⊢
      walk_at "go"
      refine ⟨by omega, ?_⟩
      refine lc_m (fun (x : Nat) => .lst ((y ++ [(x : Int)]).map .int)) (by rw [List.length_range]; simp only [LIM]; omega) (fun x2 hx2 J hj => ?_) ?_
      · walk_at "go"
        exact ⟨by simp only [LIM]; omega, by simpa using hj⟩
      walk_at "go"
      refine ⟨by simp only [LIM, List.length_range]; omega, ?_⟩
      simp
    · rintro l4 u4 ⟨rfl, c, d, rfl⟩
      rw [List.take_length]
      walk_at "go"
  · rintro l4 u4 ⟨rfl, a, b, c, d, rfl⟩
    walk_at "go"
    exact kk
theorem d_cost (F : Nat → FS) : Does F 6 4 b_law_cost S_lcost := by
  rintro ds u K ⟨P, f, ls, c, rfl, h100, hl, hc, hi, k⟩
  refine ⟨rfl, ?_⟩
  have k := keepK k
  have main : ∀ K2, K2 (.lst (((List.range ls.length).map fun k => (P.getD k []).getD (ls.getD k 0).toNat 0).map .int)) u → LcP F false [5] (((Ex.slot 0).ix (Ex.slot 5)).ix ((Ex.slot 2).ix (Ex.slot 5))) (Ex.slot 5) Ex.noE K2 [some (pD P), some (oiD f), some (liD ls), some (.int c), none, none] ((List.range ls.length).map fun (k : Nat) => Dt.int (k : Int)) u := by
    intro K2 h2
    refine lc_m (fun k => .int ((P.getD k []).getD (ls.getD k 0).toNat 0)) (by rw [List.length_range]; simp only [LIM]; omega) (fun x hx J hj => ?_) ?_
    · rw [List.mem_range] at hx
      have e0 : ls[x]? = some (ls.getD x 0) := by
        rw [List.getD_eq_getElem?_getD, List.getElem?_eq_getElem hx]
        rfl
      have e1 : P[x]? = some (P.getD x []) := by
        rw [List.getD_eq_getElem?_getD, List.getElem?_eq_getElem (by omega)]
        rfl
      have e2 := hi x _ _ e0 e1
      have e3 : ls.getD x 0 = ((ls.getD x 0).toNat : Int) := by omega
      have e4 : atI ((P.getD x []).map Dt.int) (ls.getD x 0) = some (.int ((P.getD x []).getD (ls.getD x 0).toNat 0)) := by
        conv => lhs; rw [e3]
        exact at_i (by omega)
      walk_at "go"
      refine ⟨_, at_P e1, _, at_map _ e0, ?_⟩
      walk_at "go"
      refine ⟨_, e4, ?_⟩
      exact hj
    walk_at "go"
    rw [List.map_map] at h2
    exact h2
  simp only [st0]
  unfold b_law_cost
  unfold costF at k
  by_cases h0 : 0 < c
  · rw [if_pos h0] at k
    have e0 : decide ((0 : Int) < c) = true := by simp; omega
    cases f with
    | none =>
      walk_at "go"
      rw [e0]
      walk_at "go"
      exact k
    | some f =>
      walk_at "go"
      rw [e0]
      walk_at "go"
      refine ⟨by omega, main _ ?_⟩
      walk_at "go"
      refine ⟨_, intsOf_map _, ?_⟩
      walk_at "go"
      rw [e0]
      walk_at "go"
      refine ⟨.inl (by omega), ?_⟩
      walk_at "go"
      exact k
  · rw [if_neg h0] at k
    have e0 : decide ((0 : Int) < c) = false := by simp; omega
    walk_at "go"
    rw [e0]
    walk_at "go"
    refine ⟨by omega, main _ ?_⟩
    walk_at "go"
    refine ⟨_, intsOf_map _, ?_⟩
    walk_at "go"
    rw [e0]
    walk_at "go"
    exact k
theorem d_least (F : Nat → FS) : Does F 3 1 b_law_least S_lleast := by
  rintro ds u K ⟨xs, rfl, hl, k⟩
  refine ⟨rfl, ?_⟩
  have k := keepK k
  simp only [st0]
  unfold b_law_least
  walk_at "go"
  refine lc_f (fun o => o.map Dt.int) (by simp only [LIM]; omega) (fun o ho J hj => ?_) ?_
  · cases o <;> walk_at "go" <;> exact hj
  have e : xs.filterMap (fun o => o.map Dt.int) = (xs.filterMap id).map .int := by
    rw [List.map_filterMap]
    rfl
  rw [e]
  unfold leastF at k
  generalize xs.filterMap id = ns at k ⊢
  cases ns with
  | nil =>
    walk_at "go"
    simp only [Int.cast_ofNat_Int, decide_true]
    walk_at "go"
    exact k
  | cons n ns =>
    walk_at "go"
    have e2 : decide (((ns.length + 1 : Nat) : Int) = 0) = false := by simp; omega
    rw [e2]
    walk_at "go"
    refine ⟨n :: ns, intsOf_map (n :: ns), by simp, ?_⟩
    intro k2 hk hmin
    have e3 : (n :: ns).min? = some k2 := by
      rw [List.min?_eq_some_iff]
      exact ⟨hk, hmin⟩
    rw [e3] at k
    exact k
theorem d_lbest (F : Nat → FS) : Does F 4 2 b_law_best S_lbest := by
  rintro ds u K ⟨ls, cs, rfl, hc, hl, k⟩
  refine ⟨rfl, ?_⟩
  have k := keepK k
  simp only [st0]
  unfold b_law_best
  walk_at "go"
  refine ⟨by omega, ?_⟩
  refine for_f (step := bestStep ls cs) (b0 := none) (fun b l2 u2 => u2 = u ∧ ∃ a, l2 = [some (llD ls), some (riD cs), some (oD b), a]) ⟨rfl, _, rfl⟩ ?_ ?_
  · rintro i x l2 u2 hx ⟨rfl, a, rfl⟩
    obtain ⟨rfl, hi⟩ := range_get hx
    generalize ((List.range ls.length).take x).foldl (bestStep ls cs) none = b
    have e1 : cs[x]? = some (cs.getD x none) := by
      rw [List.getD_eq_getElem?_getD, List.getElem?_eq_getElem (by omega)]
      rfl
    have e2 : ls[x]? = some (ls.getD x []) := by
      rw [List.getD_eq_getElem?_getD, List.getElem?_eq_getElem (by omega)]
      rfl
    unfold bestStep
    walk_at "go"
    refine ⟨_, at_map _ e1, ?_⟩
    generalize cs.getD x none = co at e1 ⊢
    cases co with
    | none => walk_at "go"
    | some c =>
      cases b with
      | none =>
        walk_at "go"
        refine ⟨_, at_map _ e1, _, at_map _ e2, ?_⟩
        walk_at "go"
        simp [oD_s, prD]
      | some b =>
        walk_at "go"
        refine ⟨_, at_map _ e1, ?_⟩
        walk_at "go"
        refine ⟨fun h => ?_, fun h => ?_⟩
        · rw [if_pos (by simpa using h)]
          walk_at "go"
          refine ⟨_, at_map _ e1, _, at_map _ e2, ?_⟩
          walk_at "go"
          simp [oD_s, prD]
        · rw [if_neg (by simpa using h)]
          walk_at "go"
  · rintro l4 u4 ⟨rfl, a, rfl⟩
    change ∃ u2, List.Sublist u2 u4 ∧ K (Dt.lst [oiD (costOf (List.foldl (bestStep ls cs) none (List.range ls.length))), Dt.lst (List.map Dt.int (labOf (List.foldl (bestStep ls cs) none (List.range ls.length))))]) u2 at k
    generalize (List.range ls.length).foldl (bestStep ls cs) none = b at k ⊢
    cases b with
    | none =>
      walk_at "go"
      exact k
    | some b =>
      walk_at "go"
      exact k
theorem d_ring_objects (F : Nat → FS) : Does F 4 3 b_law_ring_objects S_lring_objects := by
  rintro ds u K ⟨q, ring, ls, rfl, hl, hs, k⟩
  refine ⟨rfl, ?_⟩
  have k := keepK k
  simp only [st0]
  unfold b_law_ring_objects
  walk_at "go"
  refine ⟨by omega, ?_⟩
  refine lc_f (fun x => if ringBad q ring ls x then some (natD x) else none) (by rw [List.length_range]; simp only [LIM]; omega) (fun x hx J hj => ?_) ?_
  · rw [List.mem_range] at hx
    have e1 : atI (ring.map Dt.int) (x : Int) = some (.int (ring.getD x 0)) := at_i (by omega)
    have e2 : atI (ls.map Dt.int) (x : Int) = some (.int (ls.getD x 0)) := at_i (by omega)
    have e3 : ∃ v, atI ls ((x : Int) - 1) = some v ∧ atI (ls.map Dt.int) ((x : Int) - 1) = some (.int v) := by
      cases x with
      | zero =>
        have hne : ls ≠ [] := by
          intro e
          have := congrArg List.length e
          simp only [List.length_nil] at this
          omega
        have h1 := List.getLast?_eq_getLast (l := ls) hne
        refine ⟨_, at_m1 h1, ?_⟩
        have h2 : (ls.map Dt.int).getLast? = some (.int (ls.getLast hne)) := by
          rw [List.getLast?_map, h1]
          rfl
        exact at_m1 h2
      | succ x =>
        have h1 : ls[x]? = some (ls.getD x 0) := by
          rw [List.getD_eq_getElem?_getD, List.getElem?_eq_getElem (by omega)]
          rfl
        have e : (((x + 1 : Nat) : Int) - 1) = (x : Int) := by omega
        rw [e]
        exact ⟨_, at_n h1, at_map _ h1⟩
    obtain ⟨v, e3, e4⟩ := e3
    have hrb : ringBad q ring ls x = !decide ((ring.getD x 0, [v], ls.getD x 0) ∈ q.mv) := by
      unfold ringBad
      rw [e3]
      rfl
    simp only [hrb] at hj
    walk_at "go"
    refine ⟨_, e1, _, e4, _, e2, ?_⟩
    walk_at "go"
    cases hb : decide ((ring.getD x 0, [v], ls.getD x 0) ∈ q.mv) <;> simp only [hb, Bool.not_true, Bool.not_false, if_true, Bool.false_eq_true, if_false] at hj <;> walk_at "go" <;> exact hj
  have e : (List.range ring.length).filterMap (fun x => if ringBad q ring ls x then some (natD x) else none) = (ringObjF q ring ls).map natD := by
    exact fm_filter _ _ _
  rw [e]
  exact k
theorem d_objects (F : Nat → FS) : Does F 9 3 b_law_objects S_lobjects := by
  rintro ds u K ⟨q, t, ls, rfl, ht, hl, k⟩
  refine ⟨rfl, ?_⟩
  have k := keepK k
  have hnl := nodes_len t
  have hok := fun i x => @nodes_ch t i x
  generalize nodes t = ns at k hnl hok ⊢
  simp only [st0]
  unfold b_law_objects
  walk_at "go"
  intro p hp
  walk_at "go"
  refine ⟨by omega, ?_⟩
  refine for_I (fun i l2 u2 => u2 = (p, .lst ((((List.range ns.length).take i).filter fun at_ => !goodF q ns ls at_).map natD)) :: u ∧ ∃ a b c d e, l2 = [some (lmD q), some (.lst (ns.map ndD)), some (liD ls), some (.adr p), a, b, c, d, e]) ⟨rfl, _, _, _, _, _, rfl⟩ ?_ ?_
  · rintro i x l2 u2 hx ⟨rfl, a, b, c, d, e, rfl⟩
    obtain ⟨rfl, hi⟩ := range_get hx
    have hacc : (((List.range ns.length).take x).filter fun at_ => !goodF q ns ls at_).length ≤ 4 := by
      have h1 := List.length_filter_le (fun at_ => !goodF q ns ls at_) ((List.range ns.length).take x)
      rw [List.length_take, List.length_range] at h1
      omega
    have e9 : ((List.range ns.length).take (x + 1)).filter (fun at_ => !goodF q ns ls at_) = ((List.range ns.length).take x).filter (fun at_ => !goodF q ns ls at_) ++ (if goodF q ns ls x = true then [] else [x]) := by
      rw [List.take_add_one, hx, List.filter_append]
      cases hg : goodF q ns ls x <;> simp [hg]
    rw [e9]
    generalize ((List.range ns.length).take x).filter (fun at_ => !goodF q ns ls at_) = acc at hacc ⊢
    obtain ⟨⟨letter, ch⟩, hnd⟩ : ∃ y, ns[x]? = some y := ⟨ns[x], List.getElem?_eq_getElem hi⟩
    have hch := hok x _ hnd
    simp only at hch
    have hls : ls[x]? = some (ls.getD x 0) := by
      rw [List.getD_eq_getElem?_getD, List.getElem?_eq_getElem (by omega)]
      rfl
    have hgood : goodF q ns ls x = (decide ((letter, ch.map (fun c => ls.getD c 0), ls.getD x 0) ∈ q.mv) && !(decide (x = ns.length - 1) && !decide (ls.getD x 0 ∈ q.en))) := by
      unfold goodF
      rw [List.getD_eq_getElem?_getD, hnd]
      rfl
    rw [hgood]
    walk_at "go"
    refine ⟨_, at_map ndD hnd, ?_⟩
    walk_at "go"
    refine lc_m (fun c => .int (ls.getD c 0)) (by simp only [LIM]; omega) (fun c hc J hj => ?_) ?_
    · have h1 := hch.2 c hc
      walk_at "go"
      exact ⟨_, at_i (by omega), hj⟩
    walk_at "go"
    refine ⟨_, .inr rfl, _, at_map _ hls, ?_⟩
    have e4 : (ch.map fun c => Dt.int (ls.getD c 0)) = (ch.map fun c => ls.getD c 0).map .int := by
      rw [List.map_map]
      rfl
    rw [e4]
    have e3 : decide ((x : Int) = (ns.length : Int) - 1) = decide (x = ns.length - 1) := by
      have : ((x : Int) = (ns.length : Int) - 1) ↔ (x = ns.length - 1) := by omega
      simp only [this]
    walk_at "go"
    rw [e3]
    generalize decide ((letter, ch.map (fun c => ls.getD c 0), ls.getD x 0) ∈ q.mv) = b1
    generalize decide (x = ns.length - 1) = b2
    cases b2 with
    | false =>
      cases b1 <;> walk_at "go" <;> first | exact ⟨by simp only [LIM, List.length_map]; omega, by simp⟩ | simp
    | true =>
      walk_at "go"
      refine ⟨_, at_map _ hls, ?_⟩
      walk_at "go"
      generalize decide (ls.getD x 0 ∈ q.en) = b3
      cases b1 <;> cases b3 <;> walk_at "go" <;> first | exact ⟨by simp only [LIM, List.length_map]; omega, by simp⟩ | simp
  · rintro l4 u4 ⟨rfl, a, b, c, d, e, rfl⟩
    rw [List.take_length]
    walk_at "go"
    rw [fz2_hd (no_map _ (fun _ => rfl) _)]
    exact k
end Ob
/-! part W6 -/
namespace Ob
open PySem L2
local macro_rules | `(tactic| walk_at "wp") => `(tactic| simp only [q_wpE_c, q_wpE_slot, q_wpE_bin, q_wpE_neg, q_wpE_not, q_wpE_or, q_wpE_and, q_wpE_cmp, q_wpE_chain, q_wpE_ife, q_wpE_tup, q_wpE_lst, q_wpE_ix, q_wpE_cut, q_att, blD_eq, mvD_eq, ndD_eq, sq_pD, sq_lm, is_non, is_bl, is_int, is_lst, eq_nn, in_bl, in_lst, decide_true, am_1, am_2, am_3, ar_7, ar_2, ar_8, ar_9, ag_7, ag_2, ag_10, ag_8, ag_9, ck_n, ck_n1, cl_i, cl_i1, cl_n1, ci_t, ci_l, cn_t, cn_l, q_wpE_len, q_wpE_list, q_wpE_tuple, q_wpE_sum, q_wpE_min1, q_wpE_min2, q_wpE_int, q_wpE_all, q_wpE_sset, q_wpE_mdict, q_wpE_isi, q_wpE_pop, q_wpE_app, q_wpE_exd, q_wpE_call, q_wpE_meth, q_wpE_new, q_wpE_fz, q_wpE_bor, q_wpA_nil, q_wpA_cons, q_wpA_star, q_wpT_tv, q_wpT_tnot, q_wpT_tand, q_wpT_tor, q_wpT_noE, q_wpO_noE, q_wpO_tv, q_wpI_iSeq, q_wpI_iRan, q_wpI_iRan2, q_wpI_iEnum, q_wpI_iZip, q_wpI_iRev, e_lc, wpG, wpG.wpGs, wipeD, List.map_cons, List.map_nil, List.append_nil, List.cons_append, List.nil_append, List.replicate, List.length_cons, List.length_nil, List.length_map, Nat.reduceSub, Nat.reduceAdd, tN, enum_map,
  List.set_cons_zero, List.set_cons_succ, List.getElem?_cons_zero, List.getElem?_cons_succ, Option.some.injEq, Dt.int.injEq, Dt.bl.injEq, Dt.lst.injEq, Dt.tup.injEq, Dt.ins.injEq, Dt.adr.injEq, Cell.lst.injEq, Cell.ins.injEq, exists_eq_right, exists_eq_right', Prod.mk.injEq, exists_eq_left', exists_eq_left, exists_and_left, exists_eq', exists_eq, true_and, and_true, List.cons.injEq, and_self, and_assoc,
  bk_addi, bk_sub, bk_mul, bk_mod, bk_div, bk_pow, bk_cat, bk_rep, nk_f, nk_t, sq_lst, sq_tup, sq_pr, ls_lst, fz_lst, fz_tup, ts_non, ts_bl, ts_pr, cm_lt, cm_le, cm_gt, cm_ge, cm_eq, cm_ne, cm_eqb, cm_neb, cm_is, cm_isn, in_non, in_int, in_pr, in_o, in_oi, gt_hd, pt_hd, dl_hd,
  at_0, at_1, at_2, at_3, at_4, oD_n, oD_s, oi_n, oi_s, Option.isNone_none, Option.isNone_some, lim_0, lim_1, lim_2, lim_3, lim_4, lim_5, lim_6, lim_7, Int.natCast_nonneg, Int.ofNat_le, Bool.not_true, Bool.true_or, Bool.false_or, Bool.or_true, Bool.or_false, Bool.true_and, Bool.false_and, Bool.and_true, Bool.and_false, List.contains_cons, List.contains_nil, Nat.reduceBEq, Bool.not_false, Bool.true_eq_false, Bool.false_eq_true, false_imp_iff, true_imp_iff, reduceCtorEq, forall_const, Nat.reduceLT, Nat.reduceLeDiff, eq_self, forall_eq', forall_eq])
local macro_rules | `(tactic| walk_at "go") => `(tactic| (try dsimp only); (try walk_at "wp"); repeat (first | refine seq_i ?_ | (refine asg_i ?_; try walk_at "wp") | (refine drop_i ?_; try walk_at "wp") | (refine ret_i ?_; try walk_at "wp") | (refine forr_i ?_; try walk_at "wp") | (refine iff_i ?_; try walk_at "wp") | (refine seti_i ?_; try walk_at "wp") | (refine augi_i ?_; try walk_at "wp") | (refine seta_i ?_; try walk_at "wp") | (refine skip_i ?_; try walk_at "wp")))
/-! Walks: the law's numbers. -/
theorem flat_oi : ∀ ps : List (Option Int), (ps.map oiD).all flat = true
  | [] => rfl
  | p :: ps => by
    rw [List.map_cons, List.all_cons, flat_oi ps]
    cases p <;> rfl
theorem any_oi : ∀ ps : List (Option Int), ((ps.map oiD).any fun d => eqF d .non) = ps.any Option.isNone
  | [] => rfl
  | p :: ps => by
    rw [List.map_cons, List.any_cons, any_oi ps, List.any_cons]
    cases p <;> rfl
theorem cn_non {u : Mu} (ps : List (Option Int)) : cmpS u .NotIn .non (.lst (ps.map oiD)) = some (!ps.any Option.isNone) := by
  show (if ((true && (ps.map oiD).all flat) = true) then some ((ps.map oiD).any fun d => eqF d .non) else none).map Bool.not = _
  rw [flat_oi, any_oi]
  rfl
theorem sumO_or : ∀ ps : List (Option Int), (ps.any Option.isNone = true ∧ sumO ps = none) ∨ ∃ ns : List Int, ps = ns.map some ∧ ps.any Option.isNone = false ∧ sumO ps = some ns.sum
  | [] => .inr ⟨[], rfl, rfl, rfl⟩
  | none :: ps => .inl ⟨rfl, rfl⟩
  | some i :: ps => by
    rcases sumO_or ps with ⟨h1, h2⟩ | ⟨ns, h1, h2, h3⟩
    · exact .inl ⟨h1, by simp [sumO, h2]⟩
    · exact .inr ⟨i :: ns, by rw [h1]; rfl, h2, by simp [sumO, h3]⟩
theorem lists_row {k n : Nat} {r : List Int} (h : r ∈ listsF k n) : r.length = k ∧ ∀ y ∈ r, 0 ≤ y ∧ y < (n : Int) := by
  refine ⟨by have := lf_row n (List.range k) [[]] 0 (by simp) r h; rw [this, List.length_range]; omega, ?_⟩
  have q : ∀ (xs : List Nat) (f : List (List Int)), (∀ r ∈ f, ∀ y ∈ r, 0 ≤ y ∧ y < (n : Int)) → ∀ r ∈ xs.foldl (fun found _ => longer n found) f, ∀ y ∈ r, 0 ≤ y ∧ y < (n : Int) := by
    intro xs
    induction xs with
    | nil => exact fun f h => h
    | cons x xs ih =>
      intro f h
      refine ih (longer n f) fun r hr y hy => ?_
      unfold longer at hr
      rw [List.mem_flatMap] at hr
      obtain ⟨z, hz, hr⟩ := hr
      rw [List.mem_map] at hr
      obtain ⟨w, hw, rfl⟩ := hr
      rw [List.mem_append] at hy
      rcases hy with hy | hy
      · exact h z hz y hy
      · rw [List.mem_singleton] at hy
        rw [List.mem_range] at hw
        omega
  exact q _ _ (by simp) r h
theorem lists_len (k n : Nat) : (listsF k n).length = n ^ k := by
  have := lf_len n (List.range k) [[]]
  rw [List.length_range] at this
  refine Eq.trans this ?_
  simp
theorem riD_some (ns : List Int) : riD (ns.map some) = .lst (ns.map .int) := by
  show Dt.lst ((ns.map some).map oiD) = _
  rw [List.map_map]
  rfl
theorem or_if {α : Type} (b : Bool) (x y : α) : (if b = true then x else y) = (match b with | true => x | false => y) := by cases b <;> rfl
theorem d_root_row (F : Nat → FS) (h31 : F 31 = S_llists) (h37 : F 37 = S_lleast) : Does F 14 6 b_law_root_row S_lroot_row := by
  rintro ds u K ⟨q, letter, below, pr, f, root, rfl, hn, hb2, hbl, hpr, k⟩
  refine ⟨rfl, ?_⟩
  have k := keepK k
  simp only [st0]
  unfold b_law_root_row
  walk_at "go"
  intro p hp
  walk_at "go"
  refine ⟨by omega, ?_⟩
  refine for_I (fun i l2 u2 => u2 = (p, .lst ((((List.range q.n).take i).map fun lab => ((listsF below.length q.n).filterMap (rootOne q letter below pr f root lab)).min?).map oiD)) :: u ∧ ∃ a b c d e g h, l2 = [some (lmD q), some (.int letter), some (rrD below), some (liD pr), some (oiD f), some (.bl root), some (.adr p), a, b, c, d, e, g, h]) ⟨rfl, _, _, _, _, _, _, _, rfl⟩ ?_ ?_
  · rintro i x l2 u2 hx ⟨rfl, a, b, c, d, e, g, h, rfl⟩
    obtain ⟨rfl, hi⟩ := range_get hx
    rw [map_take hx]
    have hacc : (((List.range q.n).take x).map fun lab => ((listsF below.length q.n).filterMap (rootOne q letter below pr f root lab)).min?).length ≤ 4 := by
      rw [List.length_map, List.length_take, List.length_range]
      omega
    generalize (((List.range q.n).take x).map fun lab => ((listsF below.length q.n).filterMap (rootOne q letter below pr f root lab)).min?) = acc at hacc ⊢
    walk_at "go"
    intro p2 hp2
    walk_at "go"
    rw [h31]
    refine ⟨below.length, q.n, rfl, by omega, by omega, ?_⟩
    walk_at "go"
    have hll : (listsF below.length q.n).length ≤ 81 := by
      rw [lists_len]
      have h1 : q.n ^ below.length ≤ 3 ^ below.length := Nat.pow_le_pow_left hn _
      have h2 : 3 ^ below.length ≤ 3 ^ 2 := Nat.pow_le_pow_right (by decide) hb2
      omega
    have hrow : ∀ r ∈ listsF below.length q.n, r.length = below.length ∧ ∀ y ∈ r, 0 ≤ y ∧ y < (q.n : Int) := fun r hr => lists_row hr
    generalize listsF below.length q.n = lists at hll hrow ⊢
    refine for_I (fun i l2 u2 => u2 = (p2, .lst (((lists.take i).filterMap (rootOne q letter below pr f root x)).map .int)) :: (p, .lst (acc.map oiD)) :: u ∧ ∃ b c d e g, l2 = [some (lmD q), some (.int letter), some (rrD below), some (liD pr), some (oiD f), some (.bl root), some (.adr p), some (.int (x : Nat)), some (.adr p2), b, c, d, e, g]) ⟨rfl, _, _, _, _, _, rfl⟩ ?_ ?_
    · rintro i2 ch l3 u3 hch ⟨rfl, b, c, d, e, g, rfl⟩
      rw [fm_take hch]
      have hacc2 : ((lists.take i2).filterMap (rootOne q letter below pr f root x)).length ≤ 81 := by
        have h1 := List.length_filterMap_le (rootOne q letter below pr f root x) (lists.take i2)
        rw [List.length_take] at h1
        omega
      generalize (lists.take i2).filterMap (rootOne q letter below pr f root x) = acc2 at hacc2 ⊢
      have hc := hrow ch (List.mem_of_getElem? hch)
      walk_at "go"
      refine ⟨by omega, ?_⟩
      refine lc_m (fun k => oiD ((below.getD k []).getD (ch.getD k 0).toNat none)) (by rw [List.length_range]; simp only [LIM]; omega) (fun k hk J hj => ?_) ?_
      · rw [List.mem_range] at hk
        have e1 : below[k]? = some (below.getD k []) := by
          rw [List.getD_eq_getElem?_getD, List.getElem?_eq_getElem hk]
          rfl
        have e2 : ch[k]? = some (ch.getD k 0) := by
          rw [List.getD_eq_getElem?_getD, List.getElem?_eq_getElem (by omega)]
          rfl
        have h2 := hc.2 _ (List.mem_of_getElem? e2)
        have h3 := hbl _ (List.mem_of_getElem? e1)
        generalize below.getD k [] = row at e1 h3 hj ⊢
        generalize ch.getD k 0 = v at e2 h2 hj ⊢
        have e3 : v = (v.toNat : Int) := by omega
        have e4 : row[v.toNat]? = some (row.getD v.toNat none) := by
          rw [List.getD_eq_getElem?_getD, List.getElem?_eq_getElem (by omega)]
          rfl
        have e5 : atI (row.map oiD) v = some (oiD (row.getD v.toNat none)) := by
          conv => lhs; rw [e3]
          exact at_map _ e4
        walk_at "go"
        refine ⟨_, at_map _ e1, _, at_map _ e2, ?_⟩
        walk_at "go"
        exact ⟨_, e5, hj⟩
      have e8 : (List.range below.length).map (fun k => oiD ((below.getD k []).getD (ch.getD k 0).toNat none)) = ((List.range below.length).map fun k => (below.getD k []).getD (ch.getD k 0).toNat none).map oiD := by
        rw [List.map_map]
        rfl
      rw [e8]
      unfold rootOne
      generalize (List.range below.length).map (fun k => (below.getD k []).getD (ch.getD k 0).toNat none) = ps
      walk_at "go"
      refine ⟨_, cn_non ps, ?_⟩
      rcases sumO_or ps with ⟨h1, h2⟩ | ⟨ns, h1, h2, h3⟩
      · rw [h1, h2]
        walk_at "go"
        simp
      · rw [h2, h3, h1]
        have e9 : ((ns.map some).map oiD) = ns.map .int := by
          rw [List.map_map]
          rfl
        have e10 : atI (pr.map Dt.int) (x : Int) = some (.int (pr.getD x 0)) := at_i (by omega)
        rw [e9]
        walk_at "go"
        refine ⟨_, intsOf_map ns, _, e10, ?_⟩
        walk_at "go"
        refine ⟨_, .inr rfl, ?_⟩
        walk_at "go"
        generalize decide ((letter, ch, (x : Int)) ∈ q.mv) = b1
        generalize decide ((x : Int) ∈ q.en) = b2
        cases b1 <;> cases root <;> cases b2 <;> walk_at "go" <;> cases f <;> walk_at "go" <;> first | exact ⟨by simp only [LIM, List.length_map]; omega, by simp⟩ | simp
    · rintro l4 u4 ⟨rfl, b, c, d, e, g, rfl⟩
      rw [List.take_length]
      walk_at "go"
      have ne : p2 ≠ p := by
        intro e
        apply hp2
        rw [e]
        exact List.mem_cons_self
      refine ⟨acc.map oiD, by rw [gt_tl _ ne, gt_hd], ?_⟩
      rw [fz2_hd (no_map _ (fun _ => rfl) _)]
      walk_at "go"
      rw [h37]
      refine ⟨(lists.filterMap (rootOne q letter below pr f root x)).map some, by rw [riD_some], ?_, ?_⟩
      · rw [List.length_map]
        have h1 := List.length_filterMap_le (rootOne q letter below pr f root x) lists
        omega
      walk_at "go"
      refine ⟨by simp only [LIM, List.length_map]; omega, ?_⟩
      unfold leastF
      rw [List.filterMap_map]
      have e : (id ∘ some : Int → Option Int) = some := rfl
      rw [e, List.filterMap_some]
      simp
  · rintro l4 u4 ⟨rfl, a, b, c, d, e, g, h, rfl⟩
    rw [List.take_length]
    walk_at "go"
    rw [fz2_hd (no_map _ (fun p => by cases p <;> rfl) _)]
    exact k
end Ob
/-! part W6b -/
namespace Ob
open PySem L2
local macro_rules | `(tactic| walk_at "wp") => `(tactic| simp only [q_wpE_c, q_wpE_slot, q_wpE_bin, q_wpE_neg, q_wpE_not, q_wpE_or, q_wpE_and, q_wpE_cmp, q_wpE_chain, q_wpE_ife, q_wpE_tup, q_wpE_lst, q_wpE_ix, q_wpE_cut, q_att, blD_eq, mvD_eq, ndD_eq, sq_pD, sq_lm, is_non, is_bl, is_int, is_lst, eq_nn, in_bl, in_lst, decide_true, am_1, am_2, am_3, ar_7, ar_2, ar_8, ar_9, ag_7, ag_2, ag_10, ag_8, ag_9, ck_n, ck_n1, cl_i, cl_i1, cl_n1, ci_t, ci_l, cn_t, cn_l, q_wpE_len, q_wpE_list, q_wpE_tuple, q_wpE_sum, q_wpE_min1, q_wpE_min2, q_wpE_int, q_wpE_all, q_wpE_sset, q_wpE_mdict, q_wpE_isi, q_wpE_pop, q_wpE_app, q_wpE_exd, q_wpE_call, q_wpE_meth, q_wpE_new, q_wpE_fz, q_wpE_bor, q_wpA_nil, q_wpA_cons, q_wpA_star, q_wpT_tv, q_wpT_tnot, q_wpT_tand, q_wpT_tor, q_wpT_noE, q_wpO_noE, q_wpO_tv, q_wpI_iSeq, q_wpI_iRan, q_wpI_iRan2, q_wpI_iEnum, q_wpI_iZip, q_wpI_iRev, e_lc, wpG, wpG.wpGs, wipeD, List.map_cons, List.map_nil, List.append_nil, List.cons_append, List.nil_append, List.replicate, List.length_cons, List.length_nil, List.length_map, Nat.reduceSub, Nat.reduceAdd, tN, enum_map,
  List.set_cons_zero, List.set_cons_succ, List.getElem?_cons_zero, List.getElem?_cons_succ, Option.some.injEq, Dt.int.injEq, Dt.bl.injEq, Dt.lst.injEq, Dt.tup.injEq, Dt.ins.injEq, Dt.adr.injEq, Cell.lst.injEq, Cell.ins.injEq, exists_eq_right, exists_eq_right', Prod.mk.injEq, exists_eq_left', exists_eq_left, exists_and_left, exists_eq', exists_eq, true_and, and_true, List.cons.injEq, and_self, and_assoc,
  bk_addi, bk_sub, bk_mul, bk_mod, bk_div, bk_pow, bk_cat, bk_rep, nk_f, nk_t, sq_lst, sq_tup, sq_pr, ls_lst, fz_lst, fz_tup, ts_non, ts_bl, ts_pr, cm_lt, cm_le, cm_gt, cm_ge, cm_eq, cm_ne, cm_eqb, cm_neb, cm_is, cm_isn, in_non, in_int, in_pr, in_o, in_oi, gt_hd, pt_hd, dl_hd,
  at_0, at_1, at_2, at_3, at_4, oD_n, oD_s, oi_n, oi_s, Option.isNone_none, Option.isNone_some, lim_0, lim_1, lim_2, lim_3, lim_4, lim_5, lim_6, lim_7, Int.natCast_nonneg, Int.ofNat_le, Bool.not_true, Bool.true_or, Bool.false_or, Bool.or_true, Bool.or_false, Bool.true_and, Bool.false_and, Bool.and_true, Bool.and_false, List.contains_cons, List.contains_nil, Nat.reduceBEq, Bool.not_false, Bool.true_eq_false, Bool.false_eq_true, false_imp_iff, true_imp_iff, reduceCtorEq, forall_const, Nat.reduceLT, Nat.reduceLeDiff, eq_self, forall_eq', forall_eq])
local macro_rules | `(tactic| walk_at "go") => `(tactic| (try dsimp only); (try walk_at "wp"); repeat (first | refine seq_i ?_ | (refine asg_i ?_; try walk_at "wp") | (refine drop_i ?_; try walk_at "wp") | (refine ret_i ?_; try walk_at "wp") | (refine forr_i ?_; try walk_at "wp") | (refine iff_i ?_; try walk_at "wp") | (refine seti_i ?_; try walk_at "wp") | (refine augi_i ?_; try walk_at "wp") | (refine seta_i ?_; try walk_at "wp") | (refine skip_i ?_; try walk_at "wp")))
/-! Walks: rows of numbers. -/
theorem rrD_map {α : Type} (xs : List α) (g : α → List (Option Int)) : rrD (xs.map g) = .lst (xs.map fun x => .lst ((g x).map oiD)) := by
  show Dt.lst ((xs.map g).map _) = _
  rw [List.map_map]
  rfl
theorem rootRow_len (q : Lm) (letter : Int) (below : List (List (Option Int))) (pr : List Int) (f : Option Int) (root : Bool) : (rootRow q letter below pr f root).length = q.n := by
  unfold rootRow
  rw [List.length_map, List.length_range]
theorem num_fold {q : Lm} {P : List (List Int)} {f : Option Int} {ns : List Nd} : ∀ (xs : List Nat) (r0 : List (List (Option Int))), (∀ r ∈ r0, r.length = q.n) → (xs.foldl (numStep q P f ns) r0).length = r0.length + xs.length ∧ ∀ r ∈ xs.foldl (numStep q P f ns) r0, r.length = q.n
  | [], r0, h => ⟨rfl, h⟩
  | x :: xs, r0, h => by
    have q := num_fold (q := q) (P := P) (f := f) (ns := ns) xs (numStep q P f ns r0 x) (fun r hr => by
      unfold numStep at hr
      rw [List.mem_append, List.mem_singleton] at hr
      rcases hr with hr | hr
      · exact h r hr
      · rw [hr]
        exact rootRow_len ..)
    refine ⟨?_, q.2⟩
    rw [List.foldl_cons, q.1]
    unfold numStep
    rw [List.length_append, List.length_cons, List.length_cons, List.length_nil]
    omega
theorem get_row {xs : List (List (Option Int))} {c : Nat} (h : c < xs.length) : xs[c]? = some (xs.getD c []) := by
  rw [List.getD_eq_getElem?_getD, List.getElem?_eq_getElem h]
  rfl
theorem d_numbers (F : Nat → FS) (h38 : F 38 = S_lroot_row) : Does F 10 4 b_law_numbers S_lnumbers := by
  rintro ds u K ⟨q, t, P, f, rfl, hn, ht, hP, hPr, k⟩
  refine ⟨rfl, ?_⟩
  have k := keepK k
  have hnl := nodes_len t
  have hok := fun i x => @nodes_ch t i x
  have hpos := size_pos t
  generalize nodes t = ns at k hnl hok ⊢
  simp only [st0]
  unfold b_law_numbers
  walk_at "go"
  intro p hp
  walk_at "go"
  refine ⟨by omega, ?_⟩
  refine for_f (step := numStep q P f ns) (b0 := []) (fun rows l2 u2 => u2 = (p, .lst (rows.map fun (r : List (Option Int)) => Dt.lst (r.map oiD))) :: u ∧ ∃ a b c d e, l2 = [some (lmD q), some (.lst (ns.map ndD)), some (pD P), some (oiD f), some (.adr p), a, b, c, d, e]) ⟨rfl, _, _, _, _, _, rfl⟩ ?_ ?_
  · rintro i x l2 u2 hx ⟨rfl, a, b, c, d, e, rfl⟩
    obtain ⟨rfl, hi⟩ := range_get hx
    obtain ⟨hl1, hl2⟩ := num_fold (q := q) (P := P) (f := f) (ns := ns) ((List.range ns.length).take x) [] (by simp)
    rw [List.length_take, List.length_range] at hl1
    simp only [List.length_nil] at hl1
    generalize ((List.range ns.length).take x).foldl (numStep q P f ns) [] = rows at hl1 hl2 ⊢
    obtain ⟨⟨letter, ch⟩, hnd⟩ : ∃ y, ns[x]? = some y := ⟨ns[x], List.getElem?_eq_getElem hi⟩
    have hch := hok x _ hnd
    simp only at hch
    have hnd2 : ns.getD x (0, []) = (letter, ch) := by
      rw [List.getD_eq_getElem?_getD, hnd]
      rfl
    unfold numStep
    rw [hnd2]
    have hp1 : P[x]? = some (P.getD x []) := by
      rw [List.getD_eq_getElem?_getD, List.getElem?_eq_getElem (by omega)]
      rfl
    walk_at "go"
    refine ⟨_, at_map ndD hnd, ?_⟩
    walk_at "go"
    refine lc_m (fun c => .lst ((rows.getD c []).map oiD)) (by simp only [LIM]; omega) (fun c hc J hj => ?_) ?_
    · have h1 := hch.2 c hc
      walk_at "go"
      rw [sq_adr (gt_hd p _)]
      walk_at "go"
      exact ⟨_, at_map _ (get_row (by omega)), hj⟩
    walk_at "go"
    refine ⟨_, at_P hp1, ?_⟩
    rw [h38]
    refine ⟨q, letter, ch.map fun c => rows.getD c [], P.getD x [], f, false, ?_, hn, by rw [List.length_map]; omega, ?_, hPr _ (List.mem_of_getElem? hp1), ?_⟩
    · rw [rrD_map]
    · intro r hr
      rw [List.mem_map] at hr
      obtain ⟨c, hc, rfl⟩ := hr
      have h1 := hch.2 c hc
      exact hl2 _ (List.mem_of_getElem? (get_row (by omega)))
    walk_at "go"
    exact ⟨by simp only [LIM]; omega, by simp⟩
  · rintro l4 u4 ⟨rfl, a, b, c, d, e, rfl⟩
    obtain ⟨hl1, hl2⟩ := num_fold (q := q) (P := P) (f := f) (ns := ns) (List.range ns.length) [] (by simp)
    rw [List.length_range] at hl1
    simp only [List.length_nil] at hl1
    have hne : numF q ns P f = (List.range ns.length).foldl (numStep q P f ns) [] := rfl
    have hen : numEnds q ns P f = rootRow q (ns.getD (ns.length - 1) (0, [])).1 ((ns.getD (ns.length - 1) (0, [])).2.map fun c => ((List.range ns.length).foldl (numStep q P f ns) []).getD c []) (P.getD (P.length - 1) []) f true := rfl
    rw [hne, hen] at k
    generalize (List.range ns.length).foldl (numStep q P f ns) [] = rows at hl1 hl2 k ⊢
    have hi : ns.length - 1 < ns.length := by omega
    obtain ⟨⟨letter, ch⟩, hnd⟩ : ∃ y, ns[ns.length - 1]? = some y := ⟨ns[ns.length - 1], List.getElem?_eq_getElem hi⟩
    have hch := hok _ _ hnd
    simp only at hch
    have hnd2 : ns.getD (ns.length - 1) (0, []) = (letter, ch) := by
      rw [List.getD_eq_getElem?_getD, hnd]
      rfl
    rw [hnd2] at k
    have hlast : (ns.map ndD).getLast? = some (ndD (letter, ch)) := by
      rw [List.getLast?_map, List.getLast?_eq_getElem?, hnd]
      rfl
    have hp1 : P[P.length - 1]? = some (P.getD (P.length - 1) []) := by
      rw [List.getD_eq_getElem?_getD, List.getElem?_eq_getElem (by omega)]
      rfl
    have hplast : (P.map fun r => Dt.lst (r.map .int)).getLast? = some (.lst ((P.getD (P.length - 1) []).map .int)) := by
      rw [List.getLast?_map, List.getLast?_eq_getElem?, hp1]
      rfl
    walk_at "go"
    refine ⟨_, at_m1 hlast, ?_⟩
    walk_at "go"
    refine lc_m (fun c => .lst ((rows.getD c []).map oiD)) (by simp only [LIM]; omega) (fun c hc J hj => ?_) ?_
    · have h1 := hch.2 c hc
      walk_at "go"
      rw [sq_adr (gt_hd p _)]
      walk_at "go"
      exact ⟨_, at_map _ (get_row (by omega)), hj⟩
    walk_at "go"
    refine ⟨_, at_m1 hplast, ?_⟩
    rw [h38]
    refine ⟨q, letter, ch.map fun c => rows.getD c [], P.getD (P.length - 1) [], f, true, ?_, hn, by rw [List.length_map]; omega, ?_, hPr _ (List.mem_of_getElem? hp1), ?_⟩
    · rw [rrD_map]
    · intro r hr
      rw [List.mem_map] at hr
      obtain ⟨c, hc, rfl⟩ := hr
      have h1 := hch.2 c hc
      exact hl2 _ (List.mem_of_getElem? (get_row (by omega)))
    walk_at "go"
    rw [fz2_hd (no_map _ (fun _ => rfl) _)]
    walk_at "go"
    exact k
theorem d_step (F : Nat → FS) (h37 : F 37 = S_lleast) : Does F 9 5 b_law_step S_lstep := by
  rintro ds u K ⟨q, letter, d0, before, pr, f, rfl, hn, hd, hda, hb, hpr, k⟩
  refine ⟨rfl, ?_⟩
  have k := keepK k
  have hsd : ∀ (c c2 : Cell) (p p2 : Addr), p ∉ adrs u → p2 ∉ adrs ((p, c) :: u) → seqOf ((p2, c2) :: (p, c) :: u) d0 = some (before.map oiD) := by
    intro c c2 p p2 hp hp2
    cases d0 with
    | adr r =>
      have hr := hda r rfl
      have n1 : p ≠ r := fun e => hp (by rw [e]; exact hr)
      have n2 : p2 ≠ r := fun e => hp2 (by rw [e]; exact List.mem_cons_of_mem _ hr)
      show (match get ((p2, c2) :: (p, c) :: u) r with
        | some (.lst ds) => some ds
        | _ => none) = _
      rw [gt_tl _ n2, gt_tl _ n1]
      exact hd
    | _ => exact hd
  simp only [st0]
  unfold b_law_step
  walk_at "go"
  intro p hp
  walk_at "go"
  refine ⟨by omega, ?_⟩
  refine for_I (fun i l2 u2 => u2 = (p, .lst ((((List.range q.n).take i).map fun lab => ((List.range q.n).filterMap (stepOne q letter before pr f lab)).min?).map oiD)) :: u ∧ ∃ a b c, l2 = [some (lmD q), some (.int letter), some d0, some (liD pr), some (oiD f), some (.adr p), a, b, c]) ⟨rfl, _, _, _, rfl⟩ ?_ ?_
  · rintro i x l2 u2 hx ⟨rfl, a, b, c, rfl⟩
    obtain ⟨rfl, hi⟩ := range_get hx
    rw [map_take hx]
    have hacc : (((List.range q.n).take x).map fun lab => ((List.range q.n).filterMap (stepOne q letter before pr f lab)).min?).length ≤ 4 := by
      rw [List.length_map, List.length_take, List.length_range]
      omega
    generalize (((List.range q.n).take x).map fun lab => ((List.range q.n).filterMap (stepOne q letter before pr f lab)).min?) = acc at hacc ⊢
    walk_at "go"
    intro p2 hp2
    have ne : p2 ≠ p := by
      intro e
      apply hp2
      rw [e]
      exact List.mem_cons_self
    walk_at "go"
    refine ⟨by omega, ?_⟩
    refine for_I (fun i l2 u2 => u2 = (p2, .lst ((((List.range q.n).take i).filterMap (stepOne q letter before pr f x)).map .int)) :: (p, .lst (acc.map oiD)) :: u ∧ ∃ c, l2 = [some (lmD q), some (.int letter), some d0, some (liD pr), some (oiD f), some (.adr p), some (.int (x : Nat)), some (.adr p2), c]) ⟨rfl, _, rfl⟩ ?_ ?_
    · rintro i2 y l3 u3 hy ⟨rfl, c, rfl⟩
      obtain ⟨rfl, hi2⟩ := range_get hy
      rw [fm_take hy]
      have hacc2 : (((List.range q.n).take y).filterMap (stepOne q letter before pr f x)).length ≤ 4 := by
        have h1 := List.length_filterMap_le (stepOne q letter before pr f x) ((List.range q.n).take y)
        rw [List.length_take, List.length_range] at h1
        omega
      generalize ((List.range q.n).take y).filterMap (stepOne q letter before pr f x) = acc2 at hacc2 ⊢
      have e1 : before[y]? = some (before.getD y none) := by
        rw [List.getD_eq_getElem?_getD, List.getElem?_eq_getElem (by omega)]
        rfl
      have e2 : atI (pr.map Dt.int) (x : Int) = some (.int (pr.getD x 0)) := at_i (by omega)
      walk_at "go"
      rw [hsd _ _ _ _ hp hp2]
      walk_at "go"
      unfold stepOne
      refine ⟨_, at_map _ e1, ?_⟩
      generalize before.getD y none = bo at e1 ⊢
      cases bo with
      | none =>
        walk_at "go"
        simp
      | some b =>
        walk_at "go"
        simp only [Option.bind_some]
        by_cases hm : (letter, [(y : Int)], (x : Int)) ∈ q.mv
        · simp only [hm, decide_true, if_true]
          walk_at "go"
          rw [hsd _ _ _ _ hp hp2]
          walk_at "go"
          refine ⟨_, at_map _ e1, _, e2, ?_⟩
          walk_at "go"
          exact ⟨by simp only [LIM, List.length_map]; omega, by simp⟩
        · simp only [hm, decide_false, if_false]
          cases f with
          | none =>
            walk_at "go"
            simp
          | some f =>
            walk_at "go"
            rw [hsd _ _ _ _ hp hp2]
            walk_at "go"
            refine ⟨_, at_map _ e1, _, e2, ?_⟩
            walk_at "go"
            exact ⟨by simp only [LIM, List.length_map]; omega, by simp⟩
    · rintro l4 u4 ⟨rfl, c, rfl⟩
      rw [List.take_length]
      walk_at "go"
      refine ⟨acc.map oiD, by rw [gt_tl _ ne, gt_hd], ?_⟩
      rw [fz2_hd (no_map _ (fun _ => rfl) _)]
      walk_at "go"
      rw [h37]
      refine ⟨((List.range q.n).filterMap (stepOne q letter before pr f x)).map some, by rw [riD_some], ?_, ?_⟩
      · rw [List.length_map]
        have h1 := List.length_filterMap_le (stepOne q letter before pr f x) (List.range q.n)
        rw [List.length_range] at h1
        omega
      walk_at "go"
      refine ⟨by simp only [LIM, List.length_map]; omega, ?_⟩
      unfold leastF
      rw [List.filterMap_map]
      have e : (id ∘ some : Int → Option Int) = some := rfl
      rw [e, List.filterMap_some]
      simp
  · rintro l4 u4 ⟨rfl, a, b, c, rfl⟩
    rw [List.take_length]
    walk_at "go"
    rw [fz2_hd (no_map _ (fun p => by cases p <;> rfl) _)]
    exact k
end Ob
/-! part W6c -/
namespace Ob
open PySem L2
local macro_rules | `(tactic| walk_at "wp") => `(tactic| simp only [q_wpE_c, q_wpE_slot, q_wpE_bin, q_wpE_neg, q_wpE_not, q_wpE_or, q_wpE_and, q_wpE_cmp, q_wpE_chain, q_wpE_ife, q_wpE_tup, q_wpE_lst, q_wpE_ix, q_wpE_cut, q_att, blD_eq, mvD_eq, ndD_eq, sq_pD, sq_lm, is_non, is_bl, is_int, is_lst, eq_nn, in_bl, in_lst, decide_true, am_1, am_2, am_3, ar_7, ar_2, ar_8, ar_9, ag_7, ag_2, ag_10, ag_8, ag_9, ck_n, ck_n1, cl_i, cl_i1, cl_n1, ci_t, ci_l, cn_t, cn_l, q_wpE_len, q_wpE_list, q_wpE_tuple, q_wpE_sum, q_wpE_min1, q_wpE_min2, q_wpE_int, q_wpE_all, q_wpE_sset, q_wpE_mdict, q_wpE_isi, q_wpE_pop, q_wpE_app, q_wpE_exd, q_wpE_call, q_wpE_meth, q_wpE_new, q_wpE_fz, q_wpE_bor, q_wpA_nil, q_wpA_cons, q_wpA_star, q_wpT_tv, q_wpT_tnot, q_wpT_tand, q_wpT_tor, q_wpT_noE, q_wpO_noE, q_wpO_tv, q_wpI_iSeq, q_wpI_iRan, q_wpI_iRan2, q_wpI_iEnum, q_wpI_iZip, q_wpI_iRev, e_lc, wpG, wpG.wpGs, wipeD, List.map_cons, List.map_nil, List.append_nil, List.cons_append, List.nil_append, List.replicate, List.length_cons, List.length_nil, List.length_map, Nat.reduceSub, Nat.reduceAdd, tN, enum_map,
  List.set_cons_zero, List.set_cons_succ, List.getElem?_cons_zero, List.getElem?_cons_succ, Option.some.injEq, Dt.int.injEq, Dt.bl.injEq, Dt.lst.injEq, Dt.tup.injEq, Dt.ins.injEq, Dt.adr.injEq, Cell.lst.injEq, Cell.ins.injEq, exists_eq_right, exists_eq_right', Prod.mk.injEq, exists_eq_left', exists_eq_left, exists_and_left, exists_eq', exists_eq, true_and, and_true, List.cons.injEq, and_self, and_assoc,
  bk_addi, bk_sub, bk_mul, bk_mod, bk_div, bk_pow, bk_cat, bk_rep, nk_f, nk_t, sq_lst, sq_tup, sq_pr, ls_lst, fz_lst, fz_tup, ts_non, ts_bl, ts_pr, cm_lt, cm_le, cm_gt, cm_ge, cm_eq, cm_ne, cm_eqb, cm_neb, cm_is, cm_isn, in_non, in_int, in_pr, in_o, in_oi, gt_hd, pt_hd, dl_hd,
  at_0, at_1, at_2, at_3, at_4, oD_n, oD_s, oi_n, oi_s, Option.isNone_none, Option.isNone_some, lim_0, lim_1, lim_2, lim_3, lim_4, lim_5, lim_6, lim_7, Int.natCast_nonneg, Int.ofNat_le, Bool.not_true, Bool.true_or, Bool.false_or, Bool.or_true, Bool.or_false, Bool.true_and, Bool.false_and, Bool.and_true, Bool.and_false, List.contains_cons, List.contains_nil, Nat.reduceBEq, Bool.not_false, Bool.true_eq_false, Bool.false_eq_true, false_imp_iff, true_imp_iff, reduceCtorEq, forall_const, Nat.reduceLT, Nat.reduceLeDiff, eq_self, forall_eq', forall_eq])
local macro_rules | `(tactic| walk_at "go") => `(tactic| (try dsimp only); (try walk_at "wp"); repeat (first | refine seq_i ?_ | (refine asg_i ?_; try walk_at "wp") | (refine drop_i ?_; try walk_at "wp") | (refine ret_i ?_; try walk_at "wp") | (refine forr_i ?_; try walk_at "wp") | (refine iff_i ?_; try walk_at "wp") | (refine seti_i ?_; try walk_at "wp") | (refine augi_i ?_; try walk_at "wp") | (refine seta_i ?_; try walk_at "wp") | (refine skip_i ?_; try walk_at "wp")))
/-! Walks: what is due. -/
theorem range_map {α β : Type} (g : α → β) (d : α) (xs : List α) {n : Nat} (hn : n = xs.length) : (List.range n).map (fun k => g (xs.getD k d)) = xs.map g := by
  subst hn
  apply List.ext_getElem?
  intro i
  rw [List.getElem?_map, List.getElem?_map]
  by_cases h : i < xs.length
  · rw [List.getElem?_eq_getElem (by rw [List.length_range]; exact h), List.getElem_range, List.getElem?_eq_getElem h]
    simp [List.getD_eq_getElem?_getD, h]
  · rw [List.getElem?_eq_none (by rw [List.length_range]; omega), List.getElem?_eq_none (by omega)]
    rfl
theorem d_tree_due (F : Nat → FS) (b : Nat) (hb : 4 ≤ b) (h27 : F 27 = S_lnodes b) (h30 : F 30 = S_lobjects) (h31 : F 31 = S_llists) (h34 : F 34 = S_lcost) (h36 : F 36 = S_lbest) (h39 : F 39 = S_lnumbers) : Does F 21 5 b_law_tree_due S_ltree_due := by
  rintro ds u K ⟨q, t, P, f, old, rfl, qo, ht, hP, hPr, ho, k⟩
  refine ⟨rfl, ?_⟩
  have k := keepK k
  have hpos := size_pos t
  have hn := qo.n
  have hnl := nodes_len t
  have hobj : ∀ ls : List Int, (objF q (nodes t) ls).length ≤ 4 := by
    intro ls
    unfold objF
    have := List.length_filter_le (fun at_ => !goodF q (nodes t) ls at_) (List.range (nodes t).length)
    rw [List.length_range] at this
    omega
  simp only [st0]
  unfold b_law_tree_due
  walk_at "go"
  rw [h27]
  refine ⟨t, rfl, by omega, ?_⟩
  walk_at "go"
  rw [h31]
  refine ⟨(nodes t).length, q.n, rfl, by omega, by omega, ?_⟩
  have hll : (listsF (nodes t).length q.n).length ≤ 81 := by
    rw [lists_len]
    have h1 : q.n ^ (nodes t).length ≤ 3 ^ (nodes t).length := Nat.pow_le_pow_left hn.2 _
    have h2 : 3 ^ (nodes t).length ≤ 3 ^ 4 := Nat.pow_le_pow_right (by decide) (by omega)
    omega
  have hrow : ∀ r ∈ listsF (nodes t).length q.n, r.length = (nodes t).length ∧ ∀ y ∈ r, 0 ≤ y ∧ y < (q.n : Int) := fun r hr => lists_row hr
  unfold dueT at k
  simp only at k
  generalize listsF (nodes t).length q.n = lists at hll hrow k ⊢
  have hget : ∀ j, j < lists.length → lists[j]? = some (lists.getD j []) := fun j hj => by
    rw [List.getD_eq_getElem?_getD, List.getElem?_eq_getElem hj]
    rfl
  walk_at "go"
  refine lc_m (fun ls => .int ((objF q (nodes t) ls).length : Nat)) (by simp only [LIM]; omega) (fun ls hls J hj => ?_) ?_
  · walk_at "go"
    rw [h30]
    refine ⟨q, t, ls, rfl, ht, by rw [(hrow ls hls).1]; exact hnl, ?_⟩
    walk_at "go"
    exact hj
  walk_at "go"
  refine ⟨by omega, ?_⟩
  refine lc_m (fun j => oiD (costF P f (lists.getD j []) (objF q (nodes t) (lists.getD j [])).length)) (by rw [List.length_range]; simp only [LIM]; omega) (fun j hj' J hj => ?_) ?_
  · rw [List.mem_range] at hj'
    have e1 := hget j hj'
    have h1 := hrow _ (List.mem_of_getElem? e1)
    walk_at "go"
    refine ⟨_, at_map _ e1, _, at_map _ e1, ?_⟩
    rw [h34]
    refine ⟨P, f, lists.getD j [], (objF q (nodes t) (lists.getD j [])).length, rfl, by omega, by omega, by have := hobj (lists.getD j []); omega, ?_, rfl, hj⟩
    intro k' i r hi hr
    have h2 := h1.2 i (List.mem_of_getElem? hi)
    have h3 := hPr r (List.mem_of_getElem? hr)
    omega
  have e1 : (List.range lists.length).map (fun j => oiD (costF P f (lists.getD j []) (objF q (nodes t) (lists.getD j [])).length)) = (lists.map fun ls => costF P f ls (objF q (nodes t) ls).length).map oiD := by
    rw [range_map (fun ls => oiD (costF P f ls (objF q (nodes t) ls).length)) [] lists rfl, List.map_map]
    rfl
  rw [e1]
  walk_at "go"
  rw [h36]
  refine ⟨lists, lists.map fun ls => costF P f ls (objF q (nodes t) ls).length, rfl, by rw [List.length_map], by omega, ?_⟩
  walk_at "go"
  intro p hp
  walk_at "go"
  refine ⟨by omega, ?_⟩
  refine for_I (fun i l2 u2 => u2 = (p, .lst ((((List.range lists.length).take i).map fun j => if 0 < (objF q (nodes t) (lists.getD j [])).length then (none : Option Int) else some (farF (lists.getD j []) old : Int)).map oiD)) :: u ∧
      ∃ a b c d e g h i2 j2 k2 m2, l2 = [some (lmD q), some (treeD t), some (pD P), some (oiD f), some (liD old), some (.lst ((nodes t).map ndD)), some (llD lists), some (.lst (lists.map fun ls => .int ((objF q (nodes t) ls).length : Nat))),
        some (.lst [oiD (costOf (bestL lists (lists.map fun ls => costF P f ls (objF q (nodes t) ls).length))), .lst ((labOf (bestL lists (lists.map fun ls => costF P f ls (objF q (nodes t) ls).length))).map .int)]), some (.adr p), a, b, c, d, e, g, h, i2, j2, k2, m2])
    ⟨rfl, _, _, _, _, _, _, _, _, _, _, _, rfl⟩ ?_ ?_
  · rintro i x l2 u2 hx ⟨rfl, a, b, c, d, e, g, h, i2, j2, k2, m2, rfl⟩
    obtain ⟨rfl, hi⟩ := range_get hx
    rw [map_take hx]
    have hacc : (((List.range lists.length).take x).map fun j => if 0 < (objF q (nodes t) (lists.getD j [])).length then (none : Option Int) else some (farF (lists.getD j []) old : Int)).length ≤ 81 := by
      rw [List.length_map, List.length_take, List.length_range]
      omega
    generalize (((List.range lists.length).take x).map fun j => if 0 < (objF q (nodes t) (lists.getD j [])).length then (none : Option Int) else some (farF (lists.getD j []) old : Int)) = acc at hacc ⊢
    have e2 := hget x hi
    have h1 := hrow _ (List.mem_of_getElem? e2)
    generalize lists.getD x [] = ls at e2 h1 ⊢
    walk_at "go"
    refine ⟨by omega, ?_⟩
    refine lc_f (fun (j : Nat) => if (!decide (ls.getD j 0 = old.getD j 0)) = true then some (natD j) else none) (by rw [List.length_range]; simp only [LIM]; omega) (fun j hj' J hj => ?_) ?_
    · rw [List.mem_range] at hj'
      have e3 : atI (ls.map Dt.int) (j : Int) = some (.int (ls.getD j 0)) := at_i (by omega)
      have e4 : atI (old.map Dt.int) (j : Int) = some (.int (old.getD j 0)) := at_i (by omega)
      walk_at "go"
      refine ⟨_, at_map _ e2, ?_⟩
      walk_at "go"
      refine ⟨_, e3, _, e4, ?_⟩
      walk_at "go"
      cases hbb : decide (ls.getD j 0 = old.getD j 0) <;> simp only [hbb, Bool.not_true, Bool.not_false, if_true, Bool.false_eq_true, if_false] at hj <;> walk_at "go" <;> exact hj
    rw [fm_filter]
    have hfar : ((List.range (nodes t).length).filter fun (j : Nat) => !decide (ls.getD j 0 = old.getD j 0)).length = farF ls old := by
      unfold farF
      rw [h1.1]
    walk_at "go"
    rw [hfar]
    refine ⟨_, at_map _ e2, ?_⟩
    walk_at "go"
    simp only [Dt.bl.injEq, exists_eq_left', reduceCtorEq, false_and, exists_false, false_or]
    by_cases h0 : 0 < (objF q (nodes t) ls).length
    · have e5 : decide ((0 : Int) < ((objF q (nodes t) ls).length : Int)) = true := decide_eq_true (by omega)
      rw [e5, if_pos h0]
      simp only [if_true]
      walk_at "go"
      exact ⟨by simp only [LIM, List.length_map]; omega, by simp [oi_n]⟩
    · have e5 : decide ((0 : Int) < ((objF q (nodes t) ls).length : Int)) = false := decide_eq_false (by omega)
      rw [e5, if_neg h0]
      simp only [Bool.false_eq_true, if_false]
      walk_at "go"
      exact ⟨by simp only [LIM, List.length_map]; omega, by simp [oi_s]⟩
  · rintro l4 u4 ⟨rfl, a, b, c, d, e, g, h, i2, j2, k2, m2, rfl⟩
    rw [List.take_length]
    have e2 : (List.range lists.length).map (fun j => if 0 < (objF q (nodes t) (lists.getD j [])).length then (none : Option Int) else some (farF (lists.getD j []) old : Int)) = lists.map fun ls => if 0 < (objF q (nodes t) ls).length then (none : Option Int) else some (farF ls old : Int) :=
      range_map (fun ls => if 0 < (objF q (nodes t) ls).length then (none : Option Int) else some (farF ls old : Int)) [] lists rfl
    rw [e2]
    walk_at "go"
    have e3 : (lists.map fun ls => Dt.int ((objF q (nodes t) ls).length : Nat)) = (lists.map fun ls => ((objF q (nodes t) ls).length)).map natD := by
      rw [List.map_map]
      rfl
    rw [e3]
    refine lc_f (fun (c : Nat) => if decide (c = 0) = true then some (natD c) else none) (by rw [List.length_map]; simp only [LIM]; omega) (fun c hc J hj => ?_) ?_
    · walk_at "go"
      have e4 : decide ((c : Int) = 0) = decide (c = 0) := by
        have : ((c : Int) = 0) ↔ (c = 0) := by omega
        simp only [this]
      rw [e4]
      cases hbb : decide (c = 0) <;> simp only [hbb, if_true, Bool.false_eq_true, if_false] at hj <;> walk_at "go" <;> exact hj
    rw [fm_filter]
    have hwh : ((lists.map fun ls => ((objF q (nodes t) ls).length)).filter fun c => decide (c = 0)).length = (lists.filter fun ls => decide ((objF q (nodes t) ls).length = 0)).length := by
      rw [List.filter_map, List.length_map]
      rfl
    walk_at "go"
    rw [hwh]
    refine ⟨by omega, ?_⟩
    refine lc_m (fun _ => .lst ((List.replicate q.n (0 : Int)).map .int)) (by rw [List.length_range]; simp only [LIM]; omega) (fun o ho' J hj => ?_) ?_
    · walk_at "go"
      refine ⟨by omega, ?_⟩
      have er : (List.replicate q.n [Dt.int 0]).flatten = (List.replicate q.n (0 : Int)).map .int := by
        rw [List.map_replicate]
        generalize q.n = n
        induction n with
        | zero => rfl
        | succ n ih => rw [List.replicate_succ, List.flatten_cons, ih, List.replicate_succ]; rfl
      rw [er]
      exact hj
    have ez : (List.range (nodes t).length).map (fun _ => Dt.lst ((List.replicate q.n (0 : Int)).map .int)) = (zerosF q.n (nodes t).length).map fun r => .lst (r.map .int) := by
      unfold zerosF
      simp
      rw [List.map_const', List.length_range]
    rw [ez]
    walk_at "go"
    refine ⟨by omega, ?_⟩
    refine lc_m (fun j => .lst (((List.range q.n).map fun (lab : Nat) => if (lab : Int) = old.getD j 0 then (0 : Int) else 1).map .int)) (by rw [List.length_range]; simp only [LIM]; omega) (fun j hj' J hj => ?_) ?_
    · rw [List.mem_range] at hj'
      have e4 : atI (old.map Dt.int) (j : Int) = some (.int (old.getD j 0)) := at_i (by omega)
      generalize old.getD j 0 = o at e4 hj
      walk_at "go"
      refine ⟨by omega, ?_⟩
      refine lc_m (fun (lab : Nat) => .int (if (lab : Int) = o then (0 : Int) else 1)) (by rw [List.length_range]; simp only [LIM]; omega) (fun lab hl J hj => ?_) ?_
      · walk_at "go"
        refine ⟨_, e4, ?_⟩
        walk_at "go"
        simp only [Dt.bl.injEq, exists_eq_left', reduceCtorEq, false_and, exists_false, false_or]
        by_cases h : (lab : Int) = o
        · simp only [h, if_true] at hj
          simp [h]
          simpa using hj
        · simp only [h, if_false] at hj
          simp [h]
          simpa using hj
      walk_at "go"
      rw [List.map_map] at hj
      exact hj
    have ec : (List.range (nodes t).length).map (fun j => Dt.lst (((List.range q.n).map fun (lab : Nat) => if (lab : Int) = old.getD j 0 then (0 : Int) else 1).map .int)) = (changeP q.n old).map fun r => .lst (r.map .int) := by
      rw [range_map (fun o => Dt.lst (((List.range q.n).map fun (lab : Nat) => if (lab : Int) = o then (0 : Int) else 1).map .int)) 0 old (by omega)]
      unfold changeP
      rw [List.map_map]
      rfl
    rw [ec]
    walk_at "go"
    rw [h39]
    refine ⟨q, t, P, f, rfl, by omega, ht, hP, hPr, ?_⟩
    walk_at "go"
    refine ⟨q, t, zerosF q.n (nodes t).length, some 1, rfl, by omega, ht, by unfold zerosF; rw [List.length_replicate]; exact hnl, ?_, ?_⟩
    · intro r hr
      unfold zerosF at hr
      rw [List.eq_of_mem_replicate hr, List.length_replicate]
    walk_at "go"
    refine ⟨q, t, changeP q.n old, none, rfl, by omega, ht, by unfold changeP; rw [List.length_map]; exact ho, ?_, ?_⟩
    · intro r hr
      unfold changeP at hr
      rw [List.mem_map] at hr
      obtain ⟨_, _, rfl⟩ := hr
      simp
    walk_at "go"
    rw [h36]
    refine ⟨lists, lists.map fun ls => some ((objF q (nodes t) ls).length : Int), ?_, by rw [List.length_map], by omega, ?_⟩
    · show [llD lists, _] = [llD lists, Dt.lst ((lists.map fun ls => some ((objF q (nodes t) ls).length : Int)).map oiD)]
      rw [List.map_map, List.map_map]
      rfl
    walk_at "go"
    rw [fz2_hd (no_map _ (fun p => by cases p <;> rfl) _)]
    walk_at "go"
    refine ⟨lists, lists.map fun ls => if 0 < (objF q (nodes t) ls).length then (none : Option Int) else some (farF ls old : Int), rfl, by rw [List.length_map], by omega, ?_⟩
    walk_at "go"
    generalize costOf (bestL lists (lists.map fun ls => costF P f ls (objF q (nodes t) ls).length)) = c1 at k ⊢
    generalize labOf (bestL lists (lists.map fun ls => costF P f ls (objF q (nodes t) ls).length)) = l1 at k ⊢
    generalize costOf (bestL lists (lists.map fun ls => some ((objF q (nodes t) ls).length : Int))) = c2 at k ⊢
    generalize labOf (bestL lists (lists.map fun ls => some ((objF q (nodes t) ls).length : Int))) = l2 at k ⊢
    generalize costOf (bestL lists (lists.map fun ls => if 0 < (objF q (nodes t) ls).length then (none : Option Int) else some (farF ls old : Int))) = c3 at k ⊢
    generalize labOf (bestL lists (lists.map fun ls => if 0 < (objF q (nodes t) ls).length then (none : Option Int) else some (farF ls old : Int))) = l3 at k ⊢
    refine ⟨by decide, by decide, ?_⟩
    refine lc_m (xs := List.range (Int.toNat 3)) (fun j => ([anD ⟨c1, l1, numF q (nodes t) P f, numEnds q (nodes t) P f⟩, anD ⟨c2, l2, numF q (nodes t) (zerosF q.n (nodes t).length) (some 1), numEnds q (nodes t) (zerosF q.n (nodes t).length) (some 1)⟩, anD ⟨c3, l3, numF q (nodes t) (changeP q.n old) none, numEnds q (nodes t) (changeP q.n old) none⟩] : List Dt).getD j .non) (by rw [List.length_range]; decide) (fun j hj' J hj => ?_) ?_
    · rw [List.mem_range] at hj'
      have h012 : j = 0 ∨ j = 1 ∨ j = 2 := by
        have h3 : j < 3 := hj'
        omega
      rcases h012 with h | h | h <;> subst h
      · walk_at "go"
        refine ⟨_, rfl, _, rfl, ?_⟩
        walk_at "go"
        exact hj
      · walk_at "go"
        refine ⟨_, rfl, _, rfl, ?_⟩
        walk_at "go"
        exact hj
      · walk_at "go"
        refine ⟨_, rfl, _, rfl, ?_⟩
        walk_at "go"
        exact hj
    walk_at "go"
    refine ⟨by rw [List.length_range]; decide, ?_⟩
    exact k
end Ob
/-! part W6e -/
namespace Ob
open PySem L2
local macro_rules | `(tactic| walk_at "wp") => `(tactic| simp only [q_wpE_c, q_wpE_slot, q_wpE_bin, q_wpE_neg, q_wpE_not, q_wpE_or, q_wpE_and, q_wpE_cmp, q_wpE_chain, q_wpE_ife, q_wpE_tup, q_wpE_lst, q_wpE_ix, q_wpE_cut, q_att, blD_eq, mvD_eq, ndD_eq, sq_pD, sq_lm, is_non, is_bl, is_int, is_lst, eq_nn, in_bl, in_lst, decide_true, am_1, am_2, am_3, ar_7, ar_2, ar_8, ar_9, ag_7, ag_2, ag_10, ag_8, ag_9, ck_n, ck_n1, cl_i, cl_i1, cl_n1, ci_t, ci_l, cn_t, cn_l, q_wpE_len, q_wpE_list, q_wpE_tuple, q_wpE_sum, q_wpE_min1, q_wpE_min2, q_wpE_int, q_wpE_all, q_wpE_sset, q_wpE_mdict, q_wpE_isi, q_wpE_pop, q_wpE_app, q_wpE_exd, q_wpE_call, q_wpE_meth, q_wpE_new, q_wpE_fz, q_wpE_bor, q_wpA_nil, q_wpA_cons, q_wpA_star, q_wpT_tv, q_wpT_tnot, q_wpT_tand, q_wpT_tor, q_wpT_noE, q_wpO_noE, q_wpO_tv, q_wpI_iSeq, q_wpI_iRan, q_wpI_iRan2, q_wpI_iEnum, q_wpI_iZip, q_wpI_iRev, e_lc, wpG, wpG.wpGs, wipeD, List.map_cons, List.map_nil, List.append_nil, List.cons_append, List.nil_append, List.replicate, List.length_cons, List.length_nil, List.length_map, Nat.reduceSub, Nat.reduceAdd, tN, enum_map,
  List.set_cons_zero, List.set_cons_succ, List.getElem?_cons_zero, List.getElem?_cons_succ, Option.some.injEq, Dt.int.injEq, Dt.bl.injEq, Dt.lst.injEq, Dt.tup.injEq, Dt.ins.injEq, Dt.adr.injEq, Cell.lst.injEq, Cell.ins.injEq, exists_eq_right, exists_eq_right', Prod.mk.injEq, exists_eq_left', exists_eq_left, exists_and_left, exists_eq', exists_eq, true_and, and_true, List.cons.injEq, and_self, and_assoc,
  bk_addi, bk_sub, bk_mul, bk_mod, bk_div, bk_pow, bk_cat, bk_rep, nk_f, nk_t, sq_lst, sq_tup, sq_pr, ls_lst, fz_lst, fz_tup, ts_non, ts_bl, ts_pr, cm_lt, cm_le, cm_gt, cm_ge, cm_eq, cm_ne, cm_eqb, cm_neb, cm_is, cm_isn, in_non, in_int, in_pr, in_o, in_oi, gt_hd, pt_hd, dl_hd,
  at_0, at_1, at_2, at_3, at_4, oD_n, oD_s, oi_n, oi_s, Option.isNone_none, Option.isNone_some, lim_0, lim_1, lim_2, lim_3, lim_4, lim_5, lim_6, lim_7, Int.natCast_nonneg, Int.ofNat_le, Bool.not_true, Bool.true_or, Bool.false_or, Bool.or_true, Bool.or_false, Bool.true_and, Bool.false_and, Bool.and_true, Bool.and_false, List.contains_cons, List.contains_nil, Nat.reduceBEq, Bool.not_false, Bool.true_eq_false, Bool.false_eq_true, false_imp_iff, true_imp_iff, reduceCtorEq, forall_const, Nat.reduceLT, Nat.reduceLeDiff, eq_self, forall_eq', forall_eq])
local macro_rules | `(tactic| walk_at "go") => `(tactic| (try dsimp only); (try walk_at "wp"); repeat (first | refine seq_i ?_ | (refine asg_i ?_; try walk_at "wp") | (refine drop_i ?_; try walk_at "wp") | (refine ret_i ?_; try walk_at "wp") | (refine forr_i ?_; try walk_at "wp") | (refine iff_i ?_; try walk_at "wp") | (refine seti_i ?_; try walk_at "wp") | (refine augi_i ?_; try walk_at "wp") | (refine seta_i ?_; try walk_at "wp") | (refine skip_i ?_; try walk_at "wp")))
/-! Walks: what a ring is due. -/
theorem d_ring_due (F : Nat → FS) (h31 : F 31 = S_llists) (h34 : F 34 = S_lcost) (h35 : F 35 = S_lring_objects) (h36 : F 36 = S_lbest) (h41 : F 41 = S_lring_numbers) : Does F 9 4 b_law_ring_due S_lring_due := by
  rintro ds u K ⟨q, ring, P, f, rfl, qo, hr1, hr4, hP, hPr, k⟩
  refine ⟨rfl, ?_⟩
  have k := keepK k
  have hn := qo.n
  have hobj : ∀ ls : List Int, (ringObjF q ring ls).length ≤ 4 := by
    intro ls
    unfold ringObjF
    have := List.length_filter_le (ringBad q ring ls) (List.range ring.length)
    rw [List.length_range] at this
    omega
  simp only [st0]
  unfold b_law_ring_due
  walk_at "go"
  rw [h31]
  refine ⟨ring.length, q.n, rfl, by omega, by omega, ?_⟩
  have hll : (listsF ring.length q.n).length ≤ 81 := by
    rw [lists_len]
    have h1 : q.n ^ ring.length ≤ 3 ^ ring.length := Nat.pow_le_pow_left hn.2 _
    have h2 : 3 ^ ring.length ≤ 3 ^ 4 := Nat.pow_le_pow_right (by decide) (by omega)
    omega
  have hrow : ∀ r ∈ listsF ring.length q.n, r.length = ring.length ∧ ∀ y ∈ r, 0 ≤ y ∧ y < (q.n : Int) := fun r hr => lists_row hr
  unfold dueR at k
  simp only at k
  generalize listsF ring.length q.n = lists at hll hrow k ⊢
  have hget : ∀ j, j < lists.length → lists[j]? = some (lists.getD j []) := fun j hj => by
    rw [List.getD_eq_getElem?_getD, List.getElem?_eq_getElem hj]
    rfl
  walk_at "go"
  refine lc_m (fun ls => .int ((ringObjF q ring ls).length : Nat)) (by simp only [LIM]; omega) (fun ls hls J hj => ?_) ?_
  · walk_at "go"
    rw [h35]
    refine ⟨q, ring, ls, rfl, (hrow ls hls).1.symm, by omega, ?_⟩
    walk_at "go"
    exact hj
  walk_at "go"
  refine ⟨by omega, ?_⟩
  refine lc_m (fun j => oiD (costF P f (lists.getD j []) (ringObjF q ring (lists.getD j [])).length)) (by rw [List.length_range]; simp only [LIM]; omega) (fun j hj' J hj => ?_) ?_
  · rw [List.mem_range] at hj'
    have e1 := hget j hj'
    have h1 := hrow _ (List.mem_of_getElem? e1)
    walk_at "go"
    refine ⟨_, at_map _ e1, _, at_map _ e1, ?_⟩
    rw [h34]
    refine ⟨P, f, lists.getD j [], (ringObjF q ring (lists.getD j [])).length, rfl, by omega, by omega, by have := hobj (lists.getD j []); omega, ?_, rfl, hj⟩
    intro k' i r hi hr
    have h2 := h1.2 i (List.mem_of_getElem? hi)
    have h3 := hPr r (List.mem_of_getElem? hr)
    omega
  have e1 : (List.range lists.length).map (fun j => oiD (costF P f (lists.getD j []) (ringObjF q ring (lists.getD j [])).length)) = (lists.map fun ls => costF P f ls (ringObjF q ring ls).length).map oiD := by
    rw [range_map (fun ls => oiD (costF P f ls (ringObjF q ring ls).length)) [] lists rfl, List.map_map]
    rfl
  rw [e1]
  walk_at "go"
  rw [h36]
  refine ⟨lists, lists.map fun ls => costF P f ls (ringObjF q ring ls).length, rfl, by rw [List.length_map], by omega, ?_⟩
  walk_at "go"
  rw [h41]
  refine ⟨q, ring, P, f, rfl, by omega, hr1, by omega, hP, hPr, fun d => ?_⟩
  walk_at "go"
  have e2 : (lists.map fun ls => Dt.int ((ringObjF q ring ls).length : Nat)) = (lists.map fun ls => ((ringObjF q ring ls).length : Int)).map .int := by
    rw [List.map_map]
    rfl
  rw [e2]
  walk_at "go"
  have e3 : decide ((0 : Int) ∈ lists.map fun ls => ((ringObjF q ring ls).length : Int)) = lists.any fun ls => decide ((ringObjF q ring ls).length = 0) := by
    rw [Bool.eq_iff_iff, decide_eq_true_iff, List.any_eq_true, List.mem_map]
    constructor
    · rintro ⟨ls, h1, h2⟩
      exact ⟨ls, h1, decide_eq_true (by omega)⟩
    · rintro ⟨ls, h1, h2⟩
      have := of_decide_eq_true h2
      exact ⟨ls, h1, by omega⟩
  rw [e3]
  exact k
end Ob
/-! part W6d -/
namespace Ob
open PySem L2
local macro_rules | `(tactic| walk_at "wp") => `(tactic| simp only [q_wpE_c, q_wpE_slot, q_wpE_bin, q_wpE_neg, q_wpE_not, q_wpE_or, q_wpE_and, q_wpE_cmp, q_wpE_chain, q_wpE_ife, q_wpE_tup, q_wpE_lst, q_wpE_ix, q_wpE_cut, q_att, blD_eq, mvD_eq, ndD_eq, sq_pD, sq_lm, is_non, is_bl, is_int, is_lst, eq_nn, in_bl, in_lst, decide_true, am_1, am_2, am_3, ar_7, ar_2, ar_8, ar_9, ag_7, ag_2, ag_10, ag_8, ag_9, ck_n, ck_n1, cl_i, cl_i1, cl_n1, ci_t, ci_l, cn_t, cn_l, q_wpE_len, q_wpE_list, q_wpE_tuple, q_wpE_sum, q_wpE_min1, q_wpE_min2, q_wpE_int, q_wpE_all, q_wpE_sset, q_wpE_mdict, q_wpE_isi, q_wpE_pop, q_wpE_app, q_wpE_exd, q_wpE_call, q_wpE_meth, q_wpE_new, q_wpE_fz, q_wpE_bor, q_wpA_nil, q_wpA_cons, q_wpA_star, q_wpT_tv, q_wpT_tnot, q_wpT_tand, q_wpT_tor, q_wpT_noE, q_wpO_noE, q_wpO_tv, q_wpI_iSeq, q_wpI_iRan, q_wpI_iRan2, q_wpI_iEnum, q_wpI_iZip, q_wpI_iRev, e_lc, wpG, wpG.wpGs, wipeD, List.map_cons, List.map_nil, List.append_nil, List.cons_append, List.nil_append, List.replicate, List.length_cons, List.length_nil, List.length_map, Nat.reduceSub, Nat.reduceAdd, tN, enum_map,
  List.set_cons_zero, List.set_cons_succ, List.getElem?_cons_zero, List.getElem?_cons_succ, Option.some.injEq, Dt.int.injEq, Dt.bl.injEq, Dt.lst.injEq, Dt.tup.injEq, Dt.ins.injEq, Dt.adr.injEq, Cell.lst.injEq, Cell.ins.injEq, exists_eq_right, exists_eq_right', Prod.mk.injEq, exists_eq_left', exists_eq_left, exists_and_left, exists_eq', exists_eq, true_and, and_true, List.cons.injEq, and_self, and_assoc,
  bk_addi, bk_sub, bk_mul, bk_mod, bk_div, bk_pow, bk_cat, bk_rep, nk_f, nk_t, sq_lst, sq_tup, sq_pr, ls_lst, fz_lst, fz_tup, ts_non, ts_bl, ts_pr, cm_lt, cm_le, cm_gt, cm_ge, cm_eq, cm_ne, cm_eqb, cm_neb, cm_is, cm_isn, in_non, in_int, in_pr, in_o, in_oi, gt_hd, pt_hd, dl_hd,
  at_0, at_1, at_2, at_3, at_4, oD_n, oD_s, oi_n, oi_s, Option.isNone_none, Option.isNone_some, lim_0, lim_1, lim_2, lim_3, lim_4, lim_5, lim_6, lim_7, Int.natCast_nonneg, Int.ofNat_le, Bool.not_true, Bool.true_or, Bool.false_or, Bool.or_true, Bool.or_false, Bool.true_and, Bool.false_and, Bool.and_true, Bool.and_false, List.contains_cons, List.contains_nil, Nat.reduceBEq, Bool.not_false, Bool.true_eq_false, Bool.false_eq_true, false_imp_iff, true_imp_iff, reduceCtorEq, forall_const, Nat.reduceLT, Nat.reduceLeDiff, eq_self, forall_eq', forall_eq])
local macro_rules | `(tactic| walk_at "go") => `(tactic| (try dsimp only); (try walk_at "wp"); repeat (first | refine seq_i ?_ | (refine asg_i ?_; try walk_at "wp") | (refine drop_i ?_; try walk_at "wp") | (refine ret_i ?_; try walk_at "wp") | (refine forr_i ?_; try walk_at "wp") | (refine iff_i ?_; try walk_at "wp") | (refine seti_i ?_; try walk_at "wp") | (refine augi_i ?_; try walk_at "wp") | (refine seta_i ?_; try walk_at "wp") | (refine skip_i ?_; try walk_at "wp")))
/-! Walks: rings due. -/
theorem lawStep_len (q : Lm) (letter : Int) (before : List (Option Int)) (pr : List Int) (f : Option Int) : (lawStep q letter before pr f).length = q.n := by
  unfold lawStep
  rw [List.length_map, List.length_range]
abbrev lrStep (q : Lm) (ring : List Int) (P : List (List Int)) (f : Option Int) (rows : List (List (Option Int))) (i : Nat) : List (List (Option Int)) := rows ++ [lawStep q (ring.getD (i + 1) 0) (rows.getLastD []) (P.getD (i + 1) []) f]
/-- the rows are the first row and more -/
theorem lr_all (q : Lm) (ring : List Int) (P : List (List Int)) (f : Option Int) (first : Nat) : ∀ k, ∃ tl, (List.range k).foldl (lrStep q ring P f) [ringRows0 q first] = ringRows0 q first :: tl ∧ tl.length = k ∧ ∀ r ∈ tl, r.length = q.n
  | 0 => ⟨[], rfl, rfl, by simp⟩
  | k + 1 => by
    obtain ⟨tl, h1, h2, h3⟩ := lr_all q ring P f first k
    rw [List.range_succ, List.foldl_append, h1]
    refine ⟨tl ++ [lawStep q (ring.getD (k + 1) 0) ((ringRows0 q first :: tl).getLastD []) (P.getD (k + 1) []) f], rfl, by rw [List.length_append, h2]; rfl, ?_⟩
    intro r hr
    rw [List.mem_append, List.mem_singleton] at hr
    rcases hr with hr | hr
    · exact h3 r hr
    · rw [hr]
      exact lawStep_len ..
theorem ixn {n j : Nat} (h : j < n) : ixN n (j : Int) = some j := by
  unfold ixN
  rw [if_pos (by omega), if_pos (by omega)]
  rfl
theorem fz_two {u : Mu} {r1 r0 : Addr} {xs ys : List Dt} (hx : xs.all noAdr = true) : fz2 ((r1, .lst (.adr r0 :: xs)) :: (r0, .lst ys) :: u) (.adr r1) = (.lst (.lst ys :: xs), u) := by
  show (match get ((r1, .lst (.adr r0 :: xs)) :: (r0, .lst ys) :: u) r1 with
    | some (.lst ds) => ((.lst (fzL (del ((r1, .lst (.adr r0 :: xs)) :: (r0, .lst ys) :: u) r1) ds).1 : Dt), (fzL (del ((r1, .lst (.adr r0 :: xs)) :: (r0, .lst ys) :: u) r1) ds).2)
    | _ => (.adr r1, (r1, .lst (.adr r0 :: xs)) :: (r0, .lst ys) :: u)) = _
  rw [gt_hd]
  simp only
  rw [dl_hd]
  have e : fzL ((r0, Cell.lst ys) :: u) (.adr r0 :: xs) = (.lst ys :: xs, u) := by
    show ((fz1 ((r0, Cell.lst ys) :: u) (.adr r0)).1 :: (fzL (fz1 ((r0, Cell.lst ys) :: u) (.adr r0)).2 xs).1, (fzL (fz1 ((r0, Cell.lst ys) :: u) (.adr r0)).2 xs).2) = _
    have e2 : fz1 ((r0, Cell.lst ys) :: u) (.adr r0) = (.lst ys, u) := by
      show (match get ((r0, Cell.lst ys) :: u) r0 with
        | some (.lst ds) => ((.lst ds : Dt), del ((r0, Cell.lst ys) :: u) r0)
        | _ => (.adr r0, (r0, Cell.lst ys) :: u)) = _
      rw [gt_hd]
      simp only
      rw [dl_hd]
    rw [e2, fzL_no hx]
  rw [e]
theorem d_ring_numbers (F : Nat → FS) (h37 : F 37 = S_lleast) (h40 : F 40 = S_lstep) : Does F 9 4 b_law_ring_numbers S_lring_numbers := by
  rintro ds u K ⟨q, ring, P, f, rfl, hn, hr1, hr10, hP, hPr, k⟩
  refine ⟨rfl, ?_⟩
  simp only [st0]
  unfold b_law_ring_numbers
  walk_at "go"
  intro p4 hp4
  walk_at "go"
  intro p5 hp5
  have n54 : p5 ≠ p4 := fun e => hp5 (by rw [e]; exact List.mem_cons_self)
  walk_at "go"
  refine ⟨by omega, ?_⟩
  refine for_I (fun i l2 u2 => ∃ ws : List (Option Int), ws.length = i ∧ u2 = (p5, .lst (ws.map oiD)) :: (p4, .lst (((List.range i).map fun first => rrD (lawRows q ring P f first)))) :: u ∧ ∃ a b c, l2 = [some (lmD q), some (liD ring), some (pD P), some (oiD f), some (.adr p4), some (.adr p5), a, b, c]) ⟨[], rfl, rfl, _, _, _, rfl⟩ ?_ ?_
  · rintro i x l2 u2 hx ⟨ws, hws, rfl, a, b, c, rfl⟩
    obtain ⟨rfl, hi⟩ := range_get hx
    rw [List.range_succ, List.map_append, List.map_cons, List.map_nil]
    have hnums : ((List.range x).map fun first => rrD (lawRows q ring P f first)).length = x := by rw [List.length_map, List.length_range]
    have hnon : ((List.range x).map fun first => rrD (lawRows q ring P f first)).all noAdr = true := no_map _ (fun _ => rfl) _
    generalize (List.range x).map (fun first => rrD (lawRows q ring P f first)) = nums at hnums hnon ⊢
    walk_at "go"
    refine ⟨by omega, ?_⟩
    intro r0 hr0
    have n05 : r0 ≠ p5 := fun e => hr0 (by rw [e]; exact List.mem_cons_self)
    have n04 : r0 ≠ p4 := fun e => hr0 (by rw [e]; exact List.mem_cons_of_mem _ List.mem_cons_self)
    have er : (List.replicate q.n [Dt.non]).flatten = (List.replicate q.n (none : Option Int)).map oiD := by
      rw [List.map_replicate]
      generalize q.n = n
      induction n with
      | zero => rfl
      | succ n ih => rw [List.replicate_succ, List.flatten_cons, ih, List.replicate_succ]; rfl
    rw [er]
    walk_at "go"
    intro r1 hr1
    have n10 : r1 ≠ r0 := fun e => hr1 (by rw [e]; exact List.mem_cons_self)
    have n15 : r1 ≠ p5 := fun e => hr1 (by rw [e]; exact List.mem_cons_of_mem _ List.mem_cons_self)
    have n14 : r1 ≠ p4 := fun e => hr1 (by rw [e]; exact List.mem_cons_of_mem _ (List.mem_cons_of_mem _ List.mem_cons_self))
    walk_at "go"
    rw [sq_adr (gt_hd _ _)]
    walk_at "go"
    refine ⟨_, gt_tl _ n10 |>.trans (gt_hd _ _), ?_⟩
    refine ⟨x, by rw [List.length_map, List.length_replicate]; exact ixn hi, ?_⟩
    rw [pt_tl _ _ n10, pt_hd]
    have e0 : ((List.replicate q.n (none : Option Int)).map oiD).set x (Dt.int 0) = (ringRows0 q x).map oiD := by
      unfold ringRows0
      rw [List.map_set]
      rfl
    rw [e0]
    walk_at "go"
    have e1 : ((ring.length : Int) - 1).toNat = ring.length - 1 := by omega
    rw [e1]
    refine ⟨by omega, by omega, by omega, ?_⟩
    refine for_I (xs := List.range (ring.length - 1)) (enc := fun k => .int (1 + (k : Int))) (fun i l2 u3 => i ≤ ring.length - 1 ∧ ∃ tl : List (List (Option Int)), (List.range i).foldl (lrStep q ring P f) [ringRows0 q x] = ringRows0 q x :: tl ∧ tl.length = i ∧ (∀ r ∈ tl, r.length = q.n) ∧
        u3 = (r1, .lst (.adr r0 :: tl.map fun (r : List (Option Int)) => Dt.lst (r.map oiD))) :: (r0, .lst ((ringRows0 q x).map oiD)) :: (p5, .lst (ws.map oiD)) :: (p4, .lst nums) :: u ∧ ∃ c, l2 = [some (lmD q), some (liD ring), some (pD P), some (oiD f), some (.adr p4), some (.adr p5), some (.int (x : Nat)), some (.adr r1), c])
      ⟨by omega, [], rfl, rfl, by simp, rfl, _, rfl⟩ ?_ ?_
    · rintro i y l3 u3 hy ⟨hile, tl, htl, htll, htlr, rfl, c, rfl⟩
      obtain ⟨rfl, hi2⟩ := range_get hy
      have hlen0 : (ringRows0 q x).length = q.n := by
        unfold ringRows0
        rw [List.length_set, List.length_replicate]
      have hlast : ∃ d, (Dt.adr r0 :: tl.map fun (r : List (Option Int)) => Dt.lst (r.map oiD)).getLast? = some d ∧ ((ringRows0 q x :: tl).getLastD []).length = q.n ∧
          seqOf ((r1, .lst (.adr r0 :: tl.map fun (r : List (Option Int)) => Dt.lst (r.map oiD))) :: (r0, .lst ((ringRows0 q x).map oiD)) :: (p5, .lst (ws.map oiD)) :: (p4, .lst nums) :: u) d = some (((ringRows0 q x :: tl).getLastD []).map oiD) ∧
          ∀ p, d = .adr p → p ∈ adrs ((r1, .lst (.adr r0 :: tl.map fun (r : List (Option Int)) => Dt.lst (r.map oiD))) :: (r0, .lst ((ringRows0 q x).map oiD)) :: (p5, .lst (ws.map oiD)) :: (p4, .lst nums) :: u) := by
        rcases List.eq_nil_or_concat tl with h | ⟨tl', z, h⟩
        · subst h
          refine ⟨.adr r0, rfl, hlen0, sq_adr (gt_tl _ n10 |>.trans (gt_hd _ _)), fun p e => ?_⟩
          cases e
          exact List.mem_cons_of_mem _ List.mem_cons_self
        · rw [List.concat_eq_append] at h
          subst h
          have e9 : (ringRows0 q x :: (tl' ++ [z])).getLastD [] = z := by
            rw [List.getLastD_eq_getLast?, ← List.cons_append, List.getLast?_concat]
            rfl
          refine ⟨.lst (z.map oiD), ?_, ?_, ?_, fun p e => by cases e⟩
          · rw [List.map_append, List.map_cons, List.map_nil, ← List.cons_append, List.getLast?_concat]
          · rw [e9]
            exact htlr z (by simp)
          · rw [e9]
            rfl
      obtain ⟨d, hd1, hd2, hd3, hd4⟩ := hlast
      have hp1 : P[y + 1]? = some (P.getD (y + 1) []) := by
        rw [List.getD_eq_getElem?_getD, List.getElem?_eq_getElem (by omega)]
        rfl
      have ec : (1 : Int) + (y : Int) = ((y + 1 : Nat) : Int) := by omega
      have e7 : atI (ring.map Dt.int) ((y + 1 : Nat) : Int) = some (.int (ring.getD (y + 1) 0)) := at_i (by omega)
      walk_at "go"
      rw [ec]
      refine ⟨_, e7, ?_⟩
      rw [sq_adr (gt_hd _ _)]
      walk_at "go"
      refine ⟨_, at_m1 hd1, _, at_P hp1, ?_⟩
      rw [h40]
      refine ⟨q, ring.getD (y + 1) 0, d, (ringRows0 q x :: tl).getLastD [], P.getD (y + 1) [], f, rfl, hn, hd3, hd4, hd2, hPr _ (List.mem_of_getElem? hp1), ?_⟩
      walk_at "go"
      rw [List.range_succ, List.foldl_append, htl]
      refine ⟨by simp only [LIM]; omega, by omega, tl ++ [lawStep q (ring.getD (y + 1) 0) ((ringRows0 q x :: tl).getLastD []) (P.getD (y + 1) []) f], rfl, by simp [htll], ?_, by simp⟩
      intro r hr
      rw [List.mem_append, List.mem_singleton] at hr
      rcases hr with hr | hr
      · exact htlr r hr
      · rw [hr]
        exact lawStep_len ..
    · rintro l4 u4 ⟨hile, tl, htl, htll, htlr, rfl, c, rfl⟩
      rw [List.length_range] at htl htll hile
      have hlr : lawRows q ring P f x = ringRows0 q x :: tl := htl
      rw [hlr]
      have hlen0 : (ringRows0 q x).length = q.n := by
        unfold ringRows0
        rw [List.length_set, List.length_replicate]
      refine seq_i ?_
      refine seq_i ?_
      refine frz_i ⟨.adr r1, rfl, ?_⟩
      rw [fz_two (no_map _ (fun _ => rfl) _)]
      walk_at "go"
      refine ⟨nums, gt_tl _ n54 |>.trans (gt_hd _ _), nums, gt_tl _ n54 |>.trans (gt_hd _ _), by rw [hnums]; simp only [LIM]; omega, ?_⟩
      rw [pt_tl _ _ n54, pt_hd]
      have hl3 : ∃ z : List (Option Int), (Dt.lst ((ringRows0 q x).map oiD) :: tl.map fun (r : List (Option Int)) => Dt.lst (r.map oiD)).getLast? = some (.lst (z.map oiD)) ∧ z.length = q.n := by
        rcases List.eq_nil_or_concat tl with h | ⟨tl', z, h⟩
        · subst h
          exact ⟨_, rfl, hlen0⟩
        · rw [List.concat_eq_append] at h
          subst h
          refine ⟨z, ?_, htlr z (by simp)⟩
          rw [List.map_append, List.map_cons, List.map_nil, ← List.cons_append, List.getLast?_concat]
      obtain ⟨z, hz1, hz2⟩ := hl3
      have hp1 : P[0]? = some (P.getD 0 []) := by
        rw [List.getD_eq_getElem?_getD, List.getElem?_eq_getElem (by omega)]
        rfl
      have e7 : atI (ring.map Dt.int) 0 = some (.int (ring.getD 0 0)) := at_i (i := 0) (by omega)
      have e8 : atI (P.map fun r => Dt.lst (r.map .int)) 0 = some (.lst ((P.getD 0 []).map .int)) := at_P (i := 0) hp1
      walk_at "go"
      refine ⟨_, e7, _, at_m1 hz1, _, e8, ?_⟩
      rw [h40]
      refine ⟨q, ring.getD 0 0, .lst (z.map oiD), z, P.getD 0 [], f, rfl, hn, rfl, by simp, hz2, hPr _ (List.mem_of_getElem? hp1), ?_⟩
      have hstl := lawStep_len q (ring.getD 0 0) z (P.getD 0 []) f
      generalize lawStep q (ring.getD 0 0) z (P.getD 0 []) f = st at hstl ⊢
      have e10 : st[x]? = some (st.getD x none) := by
        rw [List.getD_eq_getElem?_getD, List.getElem?_eq_getElem (by omega)]
        rfl
      walk_at "go"
      refine ⟨_, at_map _ e10, ?_⟩
      walk_at "go"
      refine ⟨by rw [hws]; simp only [LIM]; omega, ws ++ [st.getD x none], by simp [hws], by simp, rfl⟩
  · rintro l4 u4 ⟨ws, hws, rfl, a, b, c, rfl⟩
    rw [List.length_range] at hws ⊢
    walk_at "go"
    rw [fz2_cell (gt_tl _ n54 |>.trans (gt_hd _ _)) (no_map _ (fun _ => rfl) _), dl_tl _ n54, dl_hd]
    simp only
    rw [fz2_hd (no_map _ (fun p => by cases p <;> rfl) _)]
    walk_at "go"
    rw [h37]
    refine ⟨ws, rfl, by omega, ?_⟩
    walk_at "go"
    have q9 := k (oiD (leastF ws))
    unfold lawRing at q9
    rw [List.map_map] at q9
    exact keepK q9
end Ob
/-! part W4c -/
namespace Ob
open PySem L2
local macro_rules | `(tactic| walk_at "wp") => `(tactic| simp only [q_wpE_c, q_wpE_slot, q_wpE_bin, q_wpE_neg, q_wpE_not, q_wpE_or, q_wpE_and, q_wpE_cmp, q_wpE_chain, q_wpE_ife, q_wpE_tup, q_wpE_lst, q_wpE_ix, q_wpE_cut, q_att, blD_eq, mvD_eq, ndD_eq, sq_pD, sq_lm, is_non, is_bl, is_int, is_lst, eq_nn, in_bl, in_lst, decide_true, am_1, am_2, am_3, ar_7, ar_2, ar_8, ar_9, ag_7, ag_2, ag_10, ag_8, ag_9, ck_n, ck_n1, cl_i, cl_i1, cl_n1, ci_t, ci_l, cn_t, cn_l, q_wpE_len, q_wpE_list, q_wpE_tuple, q_wpE_sum, q_wpE_min1, q_wpE_min2, q_wpE_int, q_wpE_all, q_wpE_sset, q_wpE_mdict, q_wpE_isi, q_wpE_pop, q_wpE_app, q_wpE_exd, q_wpE_call, q_wpE_meth, q_wpE_new, q_wpE_fz, q_wpE_bor, q_wpA_nil, q_wpA_cons, q_wpA_star, q_wpT_tv, q_wpT_tnot, q_wpT_tand, q_wpT_tor, q_wpT_noE, q_wpO_noE, q_wpO_tv, q_wpI_iSeq, q_wpI_iRan, q_wpI_iRan2, q_wpI_iEnum, q_wpI_iZip, q_wpI_iRev, e_lc, wpG, wpG.wpGs, wipeD, List.map_cons, List.map_nil, List.append_nil, List.cons_append, List.nil_append, List.replicate, List.length_cons, List.length_nil, List.length_map, Nat.reduceSub, Nat.reduceAdd, tN, enum_map,
  List.set_cons_zero, List.set_cons_succ, List.getElem?_cons_zero, List.getElem?_cons_succ, Option.some.injEq, Dt.int.injEq, Dt.bl.injEq, Dt.lst.injEq, Dt.tup.injEq, Dt.ins.injEq, Dt.adr.injEq, Cell.lst.injEq, Cell.ins.injEq, exists_eq_right, exists_eq_right', Prod.mk.injEq, exists_eq_left', exists_eq_left, exists_and_left, exists_eq', exists_eq, true_and, and_true, List.cons.injEq, and_self, and_assoc,
  bk_addi, bk_sub, bk_mul, bk_mod, bk_div, bk_pow, bk_cat, bk_rep, nk_f, nk_t, sq_lst, sq_tup, sq_pr, ls_lst, fz_lst, fz_tup, ts_non, ts_bl, ts_pr, cm_lt, cm_le, cm_gt, cm_ge, cm_eq, cm_ne, cm_eqb, cm_neb, cm_is, cm_isn, in_non, in_int, in_pr, in_o, in_oi, gt_hd, pt_hd, dl_hd,
  at_0, at_1, at_2, at_3, at_4, oD_n, oD_s, oi_n, oi_s, Option.isNone_none, Option.isNone_some, lim_0, lim_1, lim_2, lim_3, lim_4, lim_5, lim_6, lim_7, Int.natCast_nonneg, Int.ofNat_le, Bool.not_true, Bool.true_or, Bool.false_or, Bool.or_true, Bool.or_false, Bool.true_and, Bool.false_and, Bool.and_true, Bool.and_false, List.contains_cons, List.contains_nil, Nat.reduceBEq, Bool.not_false, Bool.true_eq_false, Bool.false_eq_true, false_imp_iff, true_imp_iff, reduceCtorEq, forall_const, Nat.reduceLT, Nat.reduceLeDiff, eq_self, forall_eq', forall_eq])
local macro_rules | `(tactic| walk_at "go") => `(tactic| (try dsimp only); (try walk_at "wp"); repeat (first | refine seq_i ?_ | (refine asg_i ?_; try walk_at "wp") | (refine drop_i ?_; try walk_at "wp") | (refine ret_i ?_; try walk_at "wp") | (refine forr_i ?_; try walk_at "wp") | (refine iff_i ?_; try walk_at "wp") | (refine seti_i ?_; try walk_at "wp") | (refine augi_i ?_; try walk_at "wp") | (refine seta_i ?_; try walk_at "wp") | (refine skip_i ?_; try walk_at "wp")))
/-! Walks: nodes as the law counts them, the law's machine, prices. -/
theorem d_lnodes (F : Nat → FS) (b : Nat) (h27 : b = 0 ∨ ∃ b', b = b' + 1 ∧ F 27 = S_lnodes b') (hb : b ≤ 1000) : Does F 9 1 b_law_nodes (S_lnodes b) := by
  rintro ds u K ⟨t, rfl, ht, k⟩
  refine ⟨rfl, ?_⟩
  have hpos := size_pos t
  rcases h27 with h0 | ⟨b', hb', h27⟩
  · omega
  have hcs := chOf_sum t
  have k := keepK k
  rw [nodes_eq] at k
  simp only [st0]
  rw [treeD_eq]
  unfold b_law_nodes
  walk_at "go"
  intro p hp
  walk_at "go"
  refine for_f (step := gStep) (b0 := ([], [])) (fun s l2 u2 => u2 = (p, .lst (s.2.map natD)) :: u ∧ ∃ a b c d e g, l2 = [some (.tup [.int (letOf t), .tup ((chOf t).map treeD)]), some (.lst (s.1.map ndD)), some (.adr p), a, b, c, d, e, g]) ⟨rfl, _, _, _, _, _, _, rfl⟩ ?_ ?_
  · rintro i x l2 u2 hx ⟨rfl, a, b, c, d, e, g, rfl⟩
    have hl := gStep_len ((chOf t).take i) ([], [])
    have hst := sum_take (chOf t) i
    have htl : ((chOf t).take i).length ≤ 2 := by
      rw [List.length_take]
      omega
    simp only [List.length_nil, Nat.zero_add] at hl
    generalize ((chOf t).take i).foldl gStep ([], []) = s at hl ⊢
    have hxs := chOf_size (List.mem_of_getElem? hx)
    have hxp := size_pos x
    walk_at "go"
    rw [h27]
    refine ⟨x, rfl, by omega, ?_⟩
    walk_at "go"
    refine lc_m (fun y => ndD (shiftN s.1.length y)) (by rw [nodes_len]; simp only [LIM]; omega) (fun y hy J hj => ?_) ?_
    · obtain ⟨letter, ch⟩ := y
      obtain ⟨i3, hi3⟩ := List.mem_iff_getElem?.mp hy
      have hch := nodes_ch hi3
      simp only at hch
      walk_at "go"
      refine lc_m (fun (c : Nat) => natD (c + s.1.length)) (by simp only [LIM]; omega) (fun c hc J hj => ?_) ?_
      · walk_at "go"
        rw [show (c : Int) + (s.1.length : Int) = ((c + s.1.length : Nat) : Int) by omega]
        exact hj
      walk_at "go"
      refine ⟨_, .inr rfl, ?_⟩
      have e : ndD (shiftN s.1.length (letter, ch)) = Dt.tup [.int letter, .tup (ch.map fun c => natD (c + s.1.length))] := by
        unfold shiftN
        rw [ndD_eq, List.map_map]
        rfl
      rw [e] at hj
      simpa using hj
    walk_at "go"
    refine ⟨by rw [nodes_len]; simp only [LIM]; omega, ?_⟩
    have e1 : ((s.1.map ndD ++ (nodes x).map fun y => ndD (shiftN s.1.length y)) : List Dt) = (gStep s x).1.map ndD := by
      simp [gStep, List.map_map]
    rw [e1]
    have e2 : (((gStep s x).1.length : Int) - 1) = ((s.1.length + x.size - 1 : Nat) : Int) := by
      simp only [gStep, List.length_append, List.length_map, nodes_len]
      omega
    walk_at "go"
    refine ⟨by simp only [LIM]; omega, ?_⟩
    rw [e2]
    simp [gStep]
  · rintro l4 u4 ⟨rfl, a, b, c, d, e, g, rfl⟩
    walk_at "go"
    rw [fz2_hd (no_map _ (fun _ => rfl) _)]
    walk_at "go"
    have hl := gStep_len (chOf t) ([], [])
    simp only [List.length_nil, Nat.zero_add] at hl
    refine ⟨_, .inr rfl, by simp only [LIM]; omega, ?_⟩
    walk_at "go"
    rw [List.map_append, List.map_cons, List.map_nil, ndD_eq] at k
    exact k
end Ob
/-! part W4f -/
namespace Ob
open PySem L2
local macro_rules | `(tactic| walk_at "wp") => `(tactic| simp only [q_wpE_c, q_wpE_slot, q_wpE_bin, q_wpE_neg, q_wpE_not, q_wpE_or, q_wpE_and, q_wpE_cmp, q_wpE_chain, q_wpE_ife, q_wpE_tup, q_wpE_lst, q_wpE_ix, q_wpE_cut, q_att, blD_eq, mvD_eq, ndD_eq, sq_pD, sq_lm, is_non, is_bl, is_int, is_lst, eq_nn, in_bl, in_lst, decide_true, am_1, am_2, am_3, ar_7, ar_2, ar_8, ar_9, ag_7, ag_2, ag_10, ag_8, ag_9, ck_n, ck_n1, cl_i, cl_i1, cl_n1, ci_t, ci_l, cn_t, cn_l, q_wpE_len, q_wpE_list, q_wpE_tuple, q_wpE_sum, q_wpE_min1, q_wpE_min2, q_wpE_int, q_wpE_all, q_wpE_sset, q_wpE_mdict, q_wpE_isi, q_wpE_pop, q_wpE_app, q_wpE_exd, q_wpE_call, q_wpE_meth, q_wpE_new, q_wpE_fz, q_wpE_bor, q_wpA_nil, q_wpA_cons, q_wpA_star, q_wpT_tv, q_wpT_tnot, q_wpT_tand, q_wpT_tor, q_wpT_noE, q_wpO_noE, q_wpO_tv, q_wpI_iSeq, q_wpI_iRan, q_wpI_iRan2, q_wpI_iEnum, q_wpI_iZip, q_wpI_iRev, e_lc, wpG, wpG.wpGs, wipeD, List.map_cons, List.map_nil, List.append_nil, List.cons_append, List.nil_append, List.replicate, List.length_cons, List.length_nil, List.length_map, Nat.reduceSub, Nat.reduceAdd, tN, enum_map,
  List.set_cons_zero, List.set_cons_succ, List.getElem?_cons_zero, List.getElem?_cons_succ, Option.some.injEq, Dt.int.injEq, Dt.bl.injEq, Dt.lst.injEq, Dt.tup.injEq, Dt.ins.injEq, Dt.adr.injEq, Cell.lst.injEq, Cell.ins.injEq, exists_eq_right, exists_eq_right', Prod.mk.injEq, exists_eq_left', exists_eq_left, exists_and_left, exists_eq', exists_eq, true_and, and_true, List.cons.injEq, and_self, and_assoc,
  bk_addi, bk_sub, bk_mul, bk_mod, bk_div, bk_pow, bk_cat, bk_rep, nk_f, nk_t, sq_lst, sq_tup, sq_pr, ls_lst, fz_lst, fz_tup, ts_non, ts_bl, ts_pr, cm_lt, cm_le, cm_gt, cm_ge, cm_eq, cm_ne, cm_eqb, cm_neb, cm_is, cm_isn, in_non, in_int, in_pr, in_o, in_oi, gt_hd, pt_hd, dl_hd,
  at_0, at_1, at_2, at_3, at_4, oD_n, oD_s, oi_n, oi_s, Option.isNone_none, Option.isNone_some, lim_0, lim_1, lim_2, lim_3, lim_4, lim_5, lim_6, lim_7, Int.natCast_nonneg, Int.ofNat_le, Bool.not_true, Bool.true_or, Bool.false_or, Bool.or_true, Bool.or_false, Bool.true_and, Bool.false_and, Bool.and_true, Bool.and_false, List.contains_cons, List.contains_nil, Nat.reduceBEq, Bool.not_false, Bool.true_eq_false, Bool.false_eq_true, false_imp_iff, true_imp_iff, reduceCtorEq, forall_const, Nat.reduceLT, Nat.reduceLeDiff, eq_self, forall_eq', forall_eq])
local macro_rules | `(tactic| walk_at "go") => `(tactic| (try dsimp only); (try walk_at "wp"); repeat (first | refine seq_i ?_ | (refine asg_i ?_; try walk_at "wp") | (refine drop_i ?_; try walk_at "wp") | (refine ret_i ?_; try walk_at "wp") | (refine forr_i ?_; try walk_at "wp") | (refine iff_i ?_; try walk_at "wp") | (refine seti_i ?_; try walk_at "wp") | (refine augi_i ?_; try walk_at "wp") | (refine seta_i ?_; try walk_at "wp") | (refine skip_i ?_; try walk_at "wp")))
/-! Walks: same. -/
theorem d_same (F : Nat → FS) (k : Nat) (h24 : k = 0 ∨ ∃ k', k = k' + 1 ∧ F 24 = S_same k') : Does F 3 2 b_law_same (S_same k) := by
  rintro ds u K ⟨d, rfl, hd, kk⟩
  refine ⟨rfl, ?_⟩
  have kk := keepK kk
  simp only [st0]
  unfold b_law_same
  cases hd with
  | non =>
    walk_at "go"
    exact kk
  | bl =>
    walk_at "go"
    exact kk
  | int =>
    walk_at "go"
    exact kk
  | lst h n =>
    rename_i xs
    rcases h24 with h0 | ⟨k', e, h24⟩
    · cases h0
    cases e
    walk_at "go"
    refine ⟨by omega, ?_⟩
    refine for_I (fun i l2 u2 => u2 = u ∧ ∃ a, l2 = [some (.lst xs), some (.lst xs), a]) ⟨rfl, _, rfl⟩ ?_ ?_
    · rintro i x l2 u2 hx ⟨rfl, a, rfl⟩
      obtain ⟨rfl, hi⟩ := range_get hx
      have e1 : xs[x]? = some xs[x] := List.getElem?_eq_getElem hi
      walk_at "go"
      refine ⟨_, at_n e1, _, at_n e1, ?_⟩
      rw [h24]
      refine ⟨xs[x], rfl, h _ (List.getElem_mem hi), ?_⟩
      walk_at "go"
    · rintro l4 u4 ⟨rfl, a, rfl⟩
      walk_at "go"
      exact kk
end Ob
/-! part W1 -/
namespace Ob
open PySem L2
local macro_rules | `(tactic| walk_at "wp") => `(tactic| simp only [q_wpE_c, q_wpE_slot, q_wpE_bin, q_wpE_neg, q_wpE_not, q_wpE_or, q_wpE_and, q_wpE_cmp, q_wpE_chain, q_wpE_ife, q_wpE_tup, q_wpE_lst, q_wpE_ix, q_wpE_cut, q_att, blD_eq, mvD_eq, ndD_eq, sq_pD, sq_lm, is_non, is_bl, is_int, is_lst, eq_nn, in_bl, in_lst, decide_true, am_1, am_2, am_3, ar_7, ar_2, ar_8, ar_9, ag_7, ag_2, ag_10, ag_8, ag_9, ck_n, ck_n1, cl_i, cl_i1, cl_n1, ci_t, ci_l, cn_t, cn_l, q_wpE_len, q_wpE_list, q_wpE_tuple, q_wpE_sum, q_wpE_min1, q_wpE_min2, q_wpE_int, q_wpE_all, q_wpE_sset, q_wpE_mdict, q_wpE_isi, q_wpE_pop, q_wpE_app, q_wpE_exd, q_wpE_call, q_wpE_meth, q_wpE_new, q_wpE_fz, q_wpE_bor, q_wpA_nil, q_wpA_cons, q_wpA_star, q_wpT_tv, q_wpT_tnot, q_wpT_tand, q_wpT_tor, q_wpT_noE, q_wpO_noE, q_wpO_tv, q_wpI_iSeq, q_wpI_iRan, q_wpI_iRan2, q_wpI_iEnum, q_wpI_iZip, q_wpI_iRev, e_lc, wpG, wpG.wpGs, wipeD, List.map_cons, List.map_nil, List.append_nil, List.cons_append, List.nil_append, List.replicate, List.length_cons, List.length_nil, List.length_map, Nat.reduceSub, Nat.reduceAdd, tN, enum_map,
  List.set_cons_zero, List.set_cons_succ, List.getElem?_cons_zero, List.getElem?_cons_succ, Option.some.injEq, Dt.int.injEq, Dt.bl.injEq, Dt.lst.injEq, Dt.tup.injEq, Dt.ins.injEq, Dt.adr.injEq, Cell.lst.injEq, Cell.ins.injEq, exists_eq_right, exists_eq_right', Prod.mk.injEq, exists_eq_left', exists_eq_left, exists_and_left, exists_eq', exists_eq, true_and, and_true, List.cons.injEq, and_self, and_assoc,
  bk_addi, bk_sub, bk_mul, bk_mod, bk_div, bk_pow, bk_cat, bk_rep, nk_f, nk_t, sq_lst, sq_tup, sq_pr, ls_lst, fz_lst, fz_tup, ts_non, ts_bl, ts_pr, cm_lt, cm_le, cm_gt, cm_ge, cm_eq, cm_ne, cm_eqb, cm_neb, cm_is, cm_isn, in_non, in_int, in_pr, in_o, in_oi, gt_hd, pt_hd, dl_hd,
  at_0, at_1, at_2, at_3, at_4, oD_n, oD_s, oi_n, oi_s, Option.isNone_none, Option.isNone_some, lim_0, lim_1, lim_2, lim_3, lim_4, lim_5, lim_6, lim_7, Int.natCast_nonneg, Int.ofNat_le, Bool.not_true, Bool.true_or, Bool.false_or, Bool.or_true, Bool.or_false, Bool.true_and, Bool.false_and, Bool.and_true, Bool.and_false, List.contains_cons, List.contains_nil, Nat.reduceBEq, Bool.not_false, Bool.true_eq_false, Bool.false_eq_true, false_imp_iff, true_imp_iff, reduceCtorEq, forall_const, Nat.reduceLT, Nat.reduceLeDiff, eq_self, forall_eq', forall_eq])
local macro_rules | `(tactic| walk_at "go") => `(tactic| (try dsimp only); (try walk_at "wp"); repeat (first | refine seq_i ?_ | (refine asg_i ?_; try walk_at "wp") | (refine drop_i ?_; try walk_at "wp") | (refine ret_i ?_; try walk_at "wp") | (refine forr_i ?_; try walk_at "wp") | (refine iff_i ?_; try walk_at "wp") | (refine seti_i ?_; try walk_at "wp") | (refine augi_i ?_; try walk_at "wp") | (refine seta_i ?_; try walk_at "wp") | (refine skip_i ?_; try walk_at "wp")))
/-! Walks: nodes in order. -/
def itD (x : Tr × Bool) : Dt := .tup [treeD x.1, .bl x.2]
theorem itD_eq (t : Tr) (b : Bool) : itD (t, b) = .tup [treeD t, .bl b] := rfl
abbrev Ns := List Nd × List Nat
def closeT (s : Ns) (t : Tr) : Ns := (s.1 ++ [(letOf t, s.2.drop (s.2.length - (chOf t).length))], s.2.take (s.2.length - (chOf t).length) ++ [s.1.length])
def sem (s : Ns) (x : Tr × Bool) : Ns := if x.2 = true then closeT s x.1 else gStep s x.1
def okS : List (Tr × Bool) → Nat → Prop
  | [], _ => True
  | (t, true) :: st, r => (chOf t).length ≤ r ∧ okS st (r - (chOf t).length + 1)
  | (_, false) :: st, r => okS st (r + 1)
def wtS (st : List (Tr × Bool)) : Nat := (st.map fun x => if x.2 = true then 1 else 2 * x.1.size).sum
theorem okS_ch : ∀ (cs : List Tr) (st : List (Tr × Bool)) (r : Nat), okS (cs.map (fun c => (c, false)) ++ st) r = okS st (r + cs.length)
  | [], _, _ => rfl
  | c :: cs, st, r => by
    show okS (cs.map (fun c => (c, false)) ++ st) (r + 1) = _
    rw [okS_ch cs st (r + 1), List.length_cons]
    congr 1
    omega
theorem wtS_ch (cs : List Tr) (st : List (Tr × Bool)) : wtS (cs.map (fun c => (c, false)) ++ st) = 2 * (cs.map Tr.size).sum + wtS st := by
  unfold wtS
  induction cs with
  | nil => simp
  | cons c cs ih =>
    simp only [List.map_cons, List.cons_append, List.sum_cons] at ih ⊢
    rw [ih]
    simp
    omega
theorem len_wt : ∀ st : List (Tr × Bool), st.length ≤ wtS st
  | [] => Nat.le_refl _
  | x :: st => by
    have h1 := len_wt st
    have h2 := size_pos x.1
    unfold wtS at h1 ⊢
    rw [List.length_cons, List.map_cons, List.sum_cons]
    cases x.2 <;> simp <;> omega
theorem shift_shift (a b : Nat) (x : Nd) : shiftN a (shiftN b x) = shiftN (a + b) x := by
  unfold shiftN
  simp only [List.map_map, Prod.mk.injEq, true_and]
  congr 1
  funext c
  simp
  omega
theorem gStep_eq (s : Ns) (t : Tr) : gStep s t = closeT ((chOf t).foldl gStep s) t := by
  cases t with
  | n0 l =>
    simp [chOf, gStep, closeT, nodes, shiftN, letOf, Tr.size]
  | n1 l a =>
    have pa := size_pos a
    simp [chOf, gStep, closeT, nodes, shiftN, letOf, Tr.size, nodes_len, List.map_append]
    omega
  | n2 l a b =>
    have pa := size_pos a
    have pb := size_pos b
    have e : ∀ k, (nodes b).map (shiftN k ∘ shiftN a.size) = (nodes b).map (shiftN (k + a.size)) := by
      intro k
      congr 1
      funext x
      exact shift_shift k a.size x
    simp [chOf, gStep, closeT, nodes, letOf, Tr.size, nodes_len, List.map_append, List.map_map, e]
    unfold shiftN
    simp
    omega
theorem sq_tr {u : Mu} (t : Tr) : seqOf u (treeD t) = some [.int (letOf t), .tup ((chOf t).map treeD)] := by
  rw [treeD_eq]
  rfl
theorem d_nodes_of (F : Nat → FS) : Does F 9 1 b_nodes_of S_nodes_of := by
  rintro ds u K ⟨t, rfl, ht, k⟩
  refine ⟨rfl, ?_⟩
  have k := keepK k
  have hpos := size_pos t
  simp only [st0]
  unfold b_nodes_of
  walk_at "go"
  intro p hp
  walk_at "go"
  intro q hq
  have nqp : q ≠ p := fun e => hq (by rw [e]; exact List.mem_cons_self)
  walk_at "go"
  refine while_i (fun n l2 u2 => ∃ (st : List (Tr × Bool)) (s : Ns), n = wtS st ∧ u2 = (q, .lst (st.reverse.map itD)) :: (p, .lst (s.1.map ndD)) :: u ∧ okS st s.2.length ∧ s.1.length + wtS st ≤ 2 * t.size ∧ s.2.length ≤ s.1.length ∧ st.length ≤ wtS st ∧
      st.foldl sem s = gStep ([], []) t ∧ ∃ b c d e f, l2 = [some (treeD t), some (.adr p), some (.lst (s.2.map natD)), some (.adr q), b, c, d, e, f])
    ⟨_, [(t, false)], ([], []), rfl, rfl, trivial, by simp [wtS], Nat.le_refl _, by simp [wtS]; omega, rfl, _, _, _, _, _, rfl⟩ ?_
  rintro n l2 u2 ⟨st, s, rfl, rfl, hok, hlen, hrl, hsl, hfin, b, c, d, e, f, rfl⟩
  walk_at "go"
  rw [ts_adr (gt_hd _ _)]
  cases st with
  | nil =>
    walk_at "go"
    simp only [List.reverse_nil, List.map_nil, List.isEmpty_nil]
    walk_at "go"
    rw [fz2_cell (gt_tl _ nqp |>.trans (gt_hd _ _)) (no_map _ (fun _ => rfl) _)]
    simp only [List.foldl_nil] at hfin
    have e : (gStep ([], []) t).1 = nodes t := by
      show [] ++ (nodes t).map (shiftN 0) = _
      rw [nodes_shift0]
      rfl
    rw [hfin, e, dl_tl _ nqp, dl_hd]
    obtain ⟨u2, h1, h2⟩ := k
    exact ⟨u2, h1.cons _, h2⟩
  | cons x st =>
    simp only [List.reverse_cons, List.map_append, List.map_cons, List.map_nil]
    obtain ⟨tx, bx⟩ := x
    have hne : (st.reverse.map itD ++ [itD (tx, bx)]).isEmpty = false := by simp
    have hcs := chOf_sum tx
    have hpx := size_pos tx
    rw [hne]
    walk_at "go"
    refine ⟨_, _, rfl, ?_⟩
    rw [itD_eq]
    walk_at "go"
    cases bx with
    | true =>
      have hk : (chOf tx).length ≤ s.2.length := hok.1
      have hok2 := hok.2
      have hw : wtS ((tx, true) :: st) = 1 + wtS st := rfl
      rw [hw] at hlen hsl ⊢
      have e1 : (s.2.length : Int) - ((chOf tx).length : Int) = ((s.2.length - (chOf tx).length : Nat) : Int) := by omega
      walk_at "go"
      rw [sq_tr]
      walk_at "go"
      rw [e1, cut_from _ _ (by rw [List.length_map]; omega)]
      walk_at "go"
      rw [cut_to _ _ (by rw [List.length_map]; omega), sq_adr (gt_tl _ nqp |>.trans (gt_hd _ _))]
      walk_at "go"
      refine ⟨by rw [List.length_take]; simp only [LIM, List.length_map]; omega, ?_⟩
      walk_at "go"
      refine ⟨_, gt_tl _ nqp |>.trans (gt_hd _ _), ?_⟩
      rw [sq_tr]
      walk_at "go"
      refine ⟨_, .inr rfl, _, gt_tl _ nqp |>.trans (gt_hd _ _), by simp only [LIM, List.length_map]; omega, ?_⟩
      refine ⟨_, Nat.lt_add_of_pos_left Nat.one_pos, st, rfl, closeT s tx, ?_, ?_, ?_, ?_, ?_, hfin, ?_⟩
      · rw [pt_tl _ _ nqp, pt_hd]
        simp [closeT, itD, ndD]
      · simp only [closeT, List.length_append, List.length_take, List.length_cons, List.length_nil]
        rw [Nat.min_eq_left (by omega)]
        exact hok2
      · simp only [closeT, List.length_append, List.length_cons, List.length_nil]
        omega
      · simp only [closeT, List.length_append, List.length_take, List.length_cons, List.length_nil]
        omega
      · simp only [List.length_cons] at hsl
        omega
      · simp [closeT]
    | false =>
      have hw : wtS ((tx, false) :: st) = 2 * tx.size + wtS st := rfl
      rw [hw] at hlen hsl ⊢
      simp only [List.length_cons] at hsl
      walk_at "go"
      refine ⟨by simp only [LIM, List.length_map, List.length_reverse]; omega, ?_⟩
      walk_at "go"
      rw [sq_tr]
      walk_at "go"
      rw [← List.map_reverse]
      refine lc_m (fun c => itD (c, false)) (by rw [List.length_reverse]; simp only [LIM]; omega) (fun c hc J hj => ?_) ?_
      · walk_at "go"
        exact hj
      walk_at "go"
      refine ⟨by simp only [LIM, List.length_map, List.length_append, List.length_reverse, List.length_cons, List.length_nil]; omega, ?_⟩
      refine ⟨_, ?_, (chOf tx).map (fun c => (c, false)) ++ (tx, true) :: st, rfl, ?_, s, rfl, ?_, ?_, hrl, ?_, ?_, ?_⟩
      · rw [wtS_ch]
        show _ + (1 + wtS st) < _
        omega
      · simp [itD, List.map_append, List.map_reverse, Function.comp_def]
      · rw [okS_ch]
        refine ⟨by omega, ?_⟩
        rw [show s.2.length + (chOf tx).length - (chOf tx).length + 1 = s.2.length + 1 by omega]
        exact hok
      · rw [wtS_ch]
        show _ + (_ + (1 + wtS st)) ≤ _
        omega
      · exact len_wt _
      · rw [List.foldl_append, List.foldl_map]
        show st.foldl sem (closeT ((chOf tx).foldl gStep s) tx) = _
        rw [← gStep_eq]
        exact hfin
      · rfl
end Ob
/-! part W1b -/
namespace Ob
open PySem L2
local macro_rules | `(tactic| walk_at "wp") => `(tactic| simp only [q_wpE_c, q_wpE_slot, q_wpE_bin, q_wpE_neg, q_wpE_not, q_wpE_or, q_wpE_and, q_wpE_cmp, q_wpE_chain, q_wpE_ife, q_wpE_tup, q_wpE_lst, q_wpE_ix, q_wpE_cut, q_att, blD_eq, mvD_eq, ndD_eq, sq_pD, sq_lm, is_non, is_bl, is_int, is_lst, eq_nn, in_bl, in_lst, decide_true, am_1, am_2, am_3, ar_7, ar_2, ar_8, ar_9, ag_7, ag_2, ag_10, ag_8, ag_9, ck_n, ck_n1, cl_i, cl_i1, cl_n1, ci_t, ci_l, cn_t, cn_l, q_wpE_len, q_wpE_list, q_wpE_tuple, q_wpE_sum, q_wpE_min1, q_wpE_min2, q_wpE_int, q_wpE_all, q_wpE_sset, q_wpE_mdict, q_wpE_isi, q_wpE_pop, q_wpE_app, q_wpE_exd, q_wpE_call, q_wpE_meth, q_wpE_new, q_wpE_fz, q_wpE_bor, q_wpA_nil, q_wpA_cons, q_wpA_star, q_wpT_tv, q_wpT_tnot, q_wpT_tand, q_wpT_tor, q_wpT_noE, q_wpO_noE, q_wpO_tv, q_wpI_iSeq, q_wpI_iRan, q_wpI_iRan2, q_wpI_iEnum, q_wpI_iZip, q_wpI_iRev, e_lc, wpG, wpG.wpGs, wipeD, List.map_cons, List.map_nil, List.append_nil, List.cons_append, List.nil_append, List.replicate, List.length_cons, List.length_nil, List.length_map, Nat.reduceSub, Nat.reduceAdd, tN, enum_map,
  List.set_cons_zero, List.set_cons_succ, List.getElem?_cons_zero, List.getElem?_cons_succ, Option.some.injEq, Dt.int.injEq, Dt.bl.injEq, Dt.lst.injEq, Dt.tup.injEq, Dt.ins.injEq, Dt.adr.injEq, Cell.lst.injEq, Cell.ins.injEq, exists_eq_right, exists_eq_right', Prod.mk.injEq, exists_eq_left', exists_eq_left, exists_and_left, exists_eq', exists_eq, true_and, and_true, List.cons.injEq, and_self, and_assoc,
  bk_addi, bk_sub, bk_mul, bk_mod, bk_div, bk_pow, bk_cat, bk_rep, nk_f, nk_t, sq_lst, sq_tup, sq_pr, ls_lst, fz_lst, fz_tup, ts_non, ts_bl, ts_pr, cm_lt, cm_le, cm_gt, cm_ge, cm_eq, cm_ne, cm_eqb, cm_neb, cm_is, cm_isn, in_non, in_int, in_pr, in_o, in_oi, gt_hd, pt_hd, dl_hd,
  at_0, at_1, at_2, at_3, at_4, oD_n, oD_s, oi_n, oi_s, Option.isNone_none, Option.isNone_some, lim_0, lim_1, lim_2, lim_3, lim_4, lim_5, lim_6, lim_7, Int.natCast_nonneg, Int.ofNat_le, Bool.not_true, Bool.true_or, Bool.false_or, Bool.or_true, Bool.or_false, Bool.true_and, Bool.false_and, Bool.and_true, Bool.and_false, List.contains_cons, List.contains_nil, Nat.reduceBEq, Bool.not_false, Bool.true_eq_false, Bool.false_eq_true, false_imp_iff, true_imp_iff, reduceCtorEq, forall_const, Nat.reduceLT, Nat.reduceLeDiff, eq_self, forall_eq', forall_eq])
local macro_rules | `(tactic| walk_at "go") => `(tactic| (try dsimp only); (try walk_at "wp"); repeat (first | refine seq_i ?_ | (refine asg_i ?_; try walk_at "wp") | (refine drop_i ?_; try walk_at "wp") | (refine ret_i ?_; try walk_at "wp") | (refine forr_i ?_; try walk_at "wp") | (refine iff_i ?_; try walk_at "wp") | (refine seti_i ?_; try walk_at "wp") | (refine augi_i ?_; try walk_at "wp") | (refine seta_i ?_; try walk_at "wp") | (refine skip_i ?_; try walk_at "wp")))
/-! Walks: counts. -/
theorem prod_bound {done : List (List Int)} {M : Nat} (h1 : 1 ≤ M) (h : ∀ r ∈ done, ∀ v ∈ r, v.natAbs ≤ M) : ∀ (zs : List (Nat × Int)) (c : Int), (zs.foldl (cntOne done) c).natAbs ≤ c.natAbs * M ^ zs.length
  | [], c => by simp
  | z :: zs, c => by
    have ih := prod_bound h1 h zs (cntOne done c z)
    have hv : (((done.getD z.1 []).getD z.2.toNat 0).natAbs) ≤ M := by
      rw [List.getD_eq_getElem?_getD, List.getD_eq_getElem?_getD]
      cases e : done[z.1]? with
      | none => simp
      | some r =>
        cases e2 : r[z.2.toNat]? with
        | none => simp [e2]
        | some v =>
          simp only [Option.getD_some, e2]
          exact h r (List.mem_of_getElem? e) v (List.mem_of_getElem? e2)
    rw [List.foldl_cons, List.length_cons, Nat.pow_succ]
    refine Nat.le_trans ih ?_
    unfold cntOne
    rw [Int.natAbs_mul, Nat.mul_comm (M ^ zs.length) M, ← Nat.mul_assoc]
    exact Nat.mul_le_mul_right _ (Nat.mul_le_mul_left _ hv)
theorem row_bound {nd : Nd} {done : List (List Int)} {M : Nat} (h1 : 1 ≤ M) (h2 : nd.2.length ≤ 2) (h : ∀ r ∈ done, ∀ v ∈ r, v.natAbs ≤ M) : ∀ (ms : List Mv) (row : List Int) (b : Nat), (∀ v ∈ row, v.natAbs ≤ b) → ∀ v ∈ ms.foldl (cntStep nd done) row, v.natAbs ≤ b + ms.length * M ^ 2
  | [], row, b, hb, v, hv => by
    have := hb v hv
    simp
    omega
  | m :: ms, row, b, hb, v, hv => by
    have hM : 1 ≤ M ^ 2 := Nat.pow_pos h1
    have ih := row_bound h1 h2 h ms (cntStep nd done row m) (b + M ^ 2) (fun w hw => by
      unfold cntStep at hw
      split at hw
      · rcases List.mem_or_eq_of_mem_set hw with hw | hw
        · have := hb w hw
          omega
        · subst hw
          have h3 := prod_bound h1 h (nd.2.zip m.2.1) 1
          have h4 : M ^ (nd.2.zip m.2.1).length ≤ M ^ 2 := Nat.pow_le_pow_right h1 (by rw [List.length_zip]; omega)
          have h5 : (row.getD m.2.2.toNat 0).natAbs ≤ b := by
            rw [List.getD_eq_getElem?_getD]
            cases e : row[m.2.2.toNat]? with
            | none => simp
            | some y => exact hb y (List.mem_of_getElem? e)
          simp only [Int.natAbs_one, Nat.one_mul] at h3
          have h6 := Int.natAbs_add_le (row.getD m.2.2.toNat 0) ((nd.2.zip m.2.1).foldl (cntOne done) 1)
          omega
      · have := hb w hw
        omega) v hv
    rw [List.length_cons, Nat.add_mul]
    omega
theorem row_len {nd : Nd} {done : List (List Int)} : ∀ (ms : List Mv) (row : List Int), (ms.foldl (cntStep nd done) row).length = row.length
  | [], _ => rfl
  | m :: ms, row => by
    rw [List.foldl_cons, row_len ms]
    unfold cntStep
    split
    · rw [List.length_set]
    · rfl
/-- what holds of the rows after i people -/
structure CntI (m : Mac) (i : Nat) (done : List (List Int)) : Prop where
  len : done.length = i
  row : ∀ r ∈ done, r.length = m.n
  b0 : ∀ r, done[0]? = some r → ∀ v ∈ r, v.natAbs ≤ 10
  b1 : ∀ r, done[1]? = some r → ∀ v ∈ r, v.natAbs ≤ 1000
theorem cnt_step {m : Mac} {i : Nat} {done : List (List Int)} {nd : Nd} (h10 : m.mv.length ≤ 10) (h2 : nd.2.length ≤ 2) (h : CntI m i done) : CntI m (i + 1) (cntRow m done nd) := by
  unfold cntRow
  have hl : (m.mv.foldl (cntStep nd done) (List.replicate m.n 0)).length = m.n := by rw [row_len, List.length_replicate]
  refine ⟨by rw [List.length_append, h.len]; rfl, ?_, ?_, ?_⟩
  · intro r hr
    rw [List.mem_append, List.mem_singleton] at hr
    rcases hr with hr | hr
    · exact h.row r hr
    · rw [hr, hl]
  · intro r hr v hv
    by_cases h0 : i = 0
    · have hd : done = [] := List.eq_nil_of_length_eq_zero (by rw [h.len, h0])
      subst hd
      simp only [List.nil_append, List.getElem?_cons_zero, Option.some.injEq] at hr
      subst hr
      have := row_bound (nd := nd) (done := []) (M := 1) (Nat.le_refl _) h2 (by simp) m.mv (List.replicate m.n 0) 0 (by simp) v hv
      simp at this
      omega
    · rw [List.getElem?_append_left (by rw [h.len]; omega)] at hr
      exact h.b0 r hr v hv
  · intro r hr v hv
    by_cases h0 : i ≤ 1
    · by_cases h1 : i = 0
      · have hd : done = [] := List.eq_nil_of_length_eq_zero (by rw [h.len, h1])
        subst hd
        simp at hr
      · have hi : i = 1 := by omega
        rw [List.getElem?_append_right (by rw [h.len]; omega), h.len, hi] at hr
        simp only [Nat.sub_self, List.getElem?_cons_zero, Option.some.injEq] at hr
        subst hr
        have := row_bound (nd := nd) (done := done) (M := 10) (by decide) h2 (by
          intro r hr w hw
          obtain ⟨j, hj⟩ := List.mem_iff_getElem?.mp hr
          have hj0 : j = 0 := by
            have := (List.getElem?_eq_some_iff.mp hj).1
            rw [h.len] at this
            omega
          subst hj0
          exact h.b0 r hj w hw) m.mv (List.replicate m.n 0) 0 (by simp) v hv
        simp at this
        omega
    · rw [List.getElem?_append_left (by rw [h.len]; omega)] at hr
      exact h.b1 r hr v hv
theorem d_counted (F : Nat → FS) (h0 : F 0 = S_nodes_of) : Does F 12 2 b_counted S_counted := by
  rintro ds u K ⟨m, t, rfl, mo, hm10, ht, k⟩
  refine ⟨rfl, ?_⟩
  have k := keepK k
  have hpos := size_pos t
  have hn8 := mo.n
  have hnl := nodes_len t
  have hok := fun i x => @nodes_ok t i x
  simp only [st0]
  unfold b_counted
  walk_at "go"
  intro p hp
  walk_at "go"
  rw [h0]
  refine ⟨t, rfl, by omega, ?_⟩
  have hk : countedF m t = (nodes t).foldl (cntRow m) [] := rfl
  rw [hk] at k
  generalize nodes t = ns at k hnl hok ⊢
  walk_at "go"
  refine for_I (fun i l2 u2 => ∃ done, done = (ns.take i).foldl (cntRow m) [] ∧ CntI m i done ∧ u2 = (p, .lst (done.map liD)) :: u ∧ ∃ a b c d e f g h j, l2 = [some (macD m), some (treeD t), some (.adr p), a, b, c, d, e, f, g, h, j]) ⟨[], rfl, ⟨rfl, by simp, by simp, by simp⟩, rfl, _, _, _, _, _, _, _, _, _, rfl⟩ ?_ ?_
  · rintro i ⟨letter, ch⟩ l2 u2 hx ⟨done, hdone, hI, rfl, a, b, c, d, e, f, g, h, j, rfl⟩
    have hnd := hok i _ hx
    simp only at hnd
    have hilt : i < ns.length := (List.getElem?_eq_some_iff.mp hx).1
    have hch2 : ch.length ≤ 2 := by
      rcases hnd with h | ⟨a, h, _⟩ | ⟨a, b, h, _⟩ <;> rw [h] <;> simp
    walk_at "go"
    refine ⟨by omega, ?_⟩
    intro r hr
    have nrp : r ≠ p := fun e => hr (by rw [e]; exact List.mem_cons_self)
    have er : (List.replicate m.n [Dt.int 0]).flatten = (List.replicate m.n (0 : Int)).map .int := by
      rw [List.map_replicate]
      generalize m.n = n
      induction n with
      | zero => rfl
      | succ n ih => rw [List.replicate_succ, List.flatten_cons, ih, List.replicate_succ]; rfl
    rw [er]
    walk_at "go"
    have e0 : (ns.take (i + 1)).foldl (cntRow m) [] = cntRow m done (letter, ch) := by
      rw [List.take_add_one, hx, List.foldl_append, ← hdone]
      rfl
    rw [e0]
    have hI2 := cnt_step hm10 (nd := (letter, ch)) hch2 hI
    refine for_f (xs := m.mv) (enc := mvD) (step := cntStep (letter, ch) done) (b0 := List.replicate m.n (0 : Int)) (fun row l2 u2 => row.length = m.n ∧ u2 = (r, .lst (row.map .int)) :: (p, .lst (done.map liD)) :: u ∧ ∃ a b c e f g, l2 = [some (macD m), some (treeD t), some (.adr p), some (.int letter), some (.tup (ch.map natD)), some (.adr r), a, b, c, e, f, g]) ⟨by simp, rfl, _, _, _, _, _, _, rfl⟩ ?_ ?_
    · rintro i2 ⟨own, bl, lab⟩ l3 u3 hy ⟨hrow, rfl, a, b, c, e, f, g, rfl⟩
      generalize (m.mv.take i2).foldl (cntStep (letter, ch) done) (List.replicate m.n (0 : Int)) = row at hrow ⊢
      have hmem := List.mem_of_getElem? hy
      have hlab := mo.lab _ hmem
      have hbl := mo.ch _ hmem
      simp only at hlab hbl
      unfold cntStep
      simp only
      walk_at "go"
      by_cases h1 : own = letter
      · by_cases h2 : bl.length = ch.length
        · rw [if_pos ⟨h1, h2⟩]
          have e1 : decide ((bl.length : Int) = (ch.length : Int)) = true := by simp [h2]
          simp only [h1, decide_true]
          rw [e1]
          walk_at "go"
          have ez : List.zipWith (fun x y => Dt.tup [x, y]) (ch.map natD) (bl.map Dt.int) = (ch.zip bl).map fun z => Dt.tup [natD z.1, .int z.2] := by
            rw [List.zip, List.map_zipWith, List.zipWith_map]
          rw [ez]
          refine for_f (step := cntOne done) (b0 := (1 : Int)) (fun cnt l2 u2 => u2 = (r, .lst (row.map .int)) :: (p, .lst (done.map liD)) :: u ∧ ∃ f g, l2 = [some (macD m), some (treeD t), some (.adr p), some (.int letter), some (.tup (ch.map natD)), some (.adr r), some (.int letter), some (.tup (bl.map .int)), some (.int lab), some (.int cnt), f, g]) ⟨rfl, _, _, rfl⟩ ?_ ?_
          · rintro i3 ⟨child, more⟩ l4 u4 hz ⟨rfl, f, g, rfl⟩
            have hzm := List.mem_of_getElem? hz
            have hcm := List.of_mem_zip hzm
            have hmore := hbl.2 more hcm.2
            have hcl : child < i := by
              rcases hnd with h | ⟨a, h, h3⟩ | ⟨a, b, h, h3, h4⟩ <;> rw [h] at hcm <;> simp at hcm <;> omega
            have hsmall : (((ch.zip bl).take i3).foldl (cntOne done) (1 : Int)).natAbs < 4294967296 := by
              have hi3 := (List.getElem?_eq_some_iff.mp hz).1
              rw [List.length_zip] at hi3
              have h01 : i3 = 0 ∨ i3 = 1 := by omega
              rcases h01 with h | h
              · subst h
                simp
              · subst h
                rcases hnd with h | ⟨a, h, h3⟩ | ⟨a, b, h, h3, h4⟩
                · rw [h] at hi3
                  simp at hi3
                · rw [h] at hi3
                  simp at hi3
                  omega
                · subst h
                  cases bl with
                  | nil => simp at hi3
                  | cons b1 bl =>
                    have ha : a < 2 := by omega
                    simp only [List.zip_cons_cons, List.take_succ_cons, List.take_zero, List.foldl_cons, List.foldl_nil, cntOne, Int.one_mul]
                    rw [List.getD_eq_getElem?_getD, List.getD_eq_getElem?_getD]
                    cases e : done[a]? with
                    | none => simp
                    | some rr =>
                      cases e2 : rr[b1.toNat]? with
                      | none => simp [e2]
                      | some v =>
                        simp only [Option.getD_some, e2]
                        have hv := List.mem_of_getElem? e2
                        have ha2 : a = 0 ∨ a = 1 := by omega
                        rcases ha2 with ha2 | ha2
                        · subst ha2
                          have := hI.b0 rr e v hv
                          omega
                        · subst ha2
                          have := hI.b1 rr e v hv
                          omega
            generalize ((ch.zip bl).take i3).foldl (cntOne done) (1 : Int) = cnt at hsmall ⊢
            have e2 : done[child]? = some (done.getD child []) := by
              rw [List.getD_eq_getElem?_getD, List.getElem?_eq_getElem (by rw [hI.len]; exact hcl)]
              rfl
            have e3 := hI.row _ (List.mem_of_getElem? e2)
            have e4 : atI ((done.getD child []).map Dt.int) more = some (.int ((done.getD child []).getD more.toNat 0)) := by
              have e5 : more = (more.toNat : Int) := by omega
              conv => lhs; rw [e5]
              exact at_i (by omega)
            walk_at "go"
            rw [sq_adr (gt_tl _ nrp |>.trans (gt_hd _ _))]
            walk_at "go"
            refine ⟨_, at_map liD e2, ?_⟩
            walk_at "go"
            refine ⟨_, e4, ?_⟩
            walk_at "go"
            exact ⟨.inl hsmall, rfl⟩
          · rintro l4 u4 ⟨rfl, f, g, rfl⟩
            walk_at "go"
            have e6 : lab = (lab.toNat : Int) := by omega
            have e7 : ixN row.length lab = some lab.toNat := by
              unfold ixN
              rw [if_pos hlab.1, if_pos (by omega)]
            have e8 : (row.map Dt.int)[lab.toNat]? = some (.int (row.getD lab.toNat 0)) := by
              rw [List.getElem?_map, List.getD_eq_getElem?_getD, List.getElem?_eq_getElem (by omega)]
              rfl
            exact ⟨_, e7, _, e8, by rw [List.length_set]; exact hrow, by rw [List.map_set]⟩
        · rw [if_neg (fun h => h2 h.2)]
          have e1 : decide ((bl.length : Int) = (ch.length : Int)) = false := by simp; omega
          simp only [h1, decide_true]
          rw [e1]
          walk_at "go"
          exact hrow
      · rw [if_neg (fun h => h1 h.1)]
        simp only [h1, decide_false]
        walk_at "go"
        exact hrow
    · rintro l4 u4 ⟨hrow, rfl, a, b, c, e, f, g, rfl⟩
      walk_at "go"
      refine ⟨_, gt_tl _ nrp |>.trans (gt_hd _ _), ?_⟩
      rw [fz2_hd (no_map _ (fun _ => rfl) _)]
      walk_at "go"
      refine ⟨by rw [hI.len]; simp only [LIM]; omega, hI2, ?_⟩
      simp [cntRow]
  · rintro l4 u4 ⟨done, hdone, hI, rfl, a, b, c, d, e, f, g, h, j, rfl⟩
    rw [List.take_length] at hdone
    rw [← hdone] at k
    have hne : done ≠ [] := by
      intro e
      have h1 := hI.len
      rw [e] at h1
      simp at h1
      omega
    have hlast : (done.map liD).getLast? = some (liD (done.getLastD [])) := by
      rw [List.getLast?_map, List.getLast?_eq_getLast hne, List.getLastD_eq_getLast?, List.getLast?_eq_getLast hne]
      rfl
    walk_at "go"
    rw [sq_adr (gt_hd _ _)]
    walk_at "go"
    refine ⟨_, at_m1 hlast, ?_⟩
    obtain ⟨u2, h1, h2⟩ := k
    exact ⟨u2, h1.cons _, h2⟩
end Ob
/-! part W1c -/
namespace Ob
open PySem L2
local macro_rules | `(tactic| walk_at "wp") => `(tactic| simp only [q_wpE_c, q_wpE_slot, q_wpE_bin, q_wpE_neg, q_wpE_not, q_wpE_or, q_wpE_and, q_wpE_cmp, q_wpE_chain, q_wpE_ife, q_wpE_tup, q_wpE_lst, q_wpE_ix, q_wpE_cut, q_att, blD_eq, mvD_eq, ndD_eq, sq_pD, sq_lm, is_non, is_bl, is_int, is_lst, eq_nn, in_bl, in_lst, decide_true, am_1, am_2, am_3, ar_7, ar_2, ar_8, ar_9, ag_7, ag_2, ag_10, ag_8, ag_9, ck_n, ck_n1, cl_i, cl_i1, cl_n1, ci_t, ci_l, cn_t, cn_l, q_wpE_len, q_wpE_list, q_wpE_tuple, q_wpE_sum, q_wpE_min1, q_wpE_min2, q_wpE_int, q_wpE_all, q_wpE_sset, q_wpE_mdict, q_wpE_isi, q_wpE_pop, q_wpE_app, q_wpE_exd, q_wpE_call, q_wpE_meth, q_wpE_new, q_wpE_fz, q_wpE_bor, q_wpA_nil, q_wpA_cons, q_wpA_star, q_wpT_tv, q_wpT_tnot, q_wpT_tand, q_wpT_tor, q_wpT_noE, q_wpO_noE, q_wpO_tv, q_wpI_iSeq, q_wpI_iRan, q_wpI_iRan2, q_wpI_iEnum, q_wpI_iZip, q_wpI_iRev, e_lc, wpG, wpG.wpGs, wipeD, List.map_cons, List.map_nil, List.append_nil, List.cons_append, List.nil_append, List.replicate, List.length_cons, List.length_nil, List.length_map, Nat.reduceSub, Nat.reduceAdd, tN, enum_map,
  List.set_cons_zero, List.set_cons_succ, List.getElem?_cons_zero, List.getElem?_cons_succ, Option.some.injEq, Dt.int.injEq, Dt.bl.injEq, Dt.lst.injEq, Dt.tup.injEq, Dt.ins.injEq, Dt.adr.injEq, Cell.lst.injEq, Cell.ins.injEq, exists_eq_right, exists_eq_right', Prod.mk.injEq, exists_eq_left', exists_eq_left, exists_and_left, exists_eq', exists_eq, true_and, and_true, List.cons.injEq, and_self, and_assoc,
  bk_addi, bk_sub, bk_mul, bk_mod, bk_div, bk_pow, bk_cat, bk_rep, nk_f, nk_t, sq_lst, sq_tup, sq_pr, ls_lst, fz_lst, fz_tup, ts_non, ts_bl, ts_pr, cm_lt, cm_le, cm_gt, cm_ge, cm_eq, cm_ne, cm_eqb, cm_neb, cm_is, cm_isn, in_non, in_int, in_pr, in_o, in_oi, gt_hd, pt_hd, dl_hd,
  at_0, at_1, at_2, at_3, at_4, oD_n, oD_s, oi_n, oi_s, Option.isNone_none, Option.isNone_some, lim_0, lim_1, lim_2, lim_3, lim_4, lim_5, lim_6, lim_7, Int.natCast_nonneg, Int.ofNat_le, Bool.not_true, Bool.true_or, Bool.false_or, Bool.or_true, Bool.or_false, Bool.true_and, Bool.false_and, Bool.and_true, Bool.and_false, List.contains_cons, List.contains_nil, Nat.reduceBEq, Bool.not_false, Bool.true_eq_false, Bool.false_eq_true, false_imp_iff, true_imp_iff, reduceCtorEq, forall_const, Nat.reduceLT, Nat.reduceLeDiff, eq_self, forall_eq', forall_eq])
local macro_rules | `(tactic| walk_at "go") => `(tactic| (try dsimp only); (try walk_at "wp"); repeat (first | refine seq_i ?_ | (refine asg_i ?_; try walk_at "wp") | (refine drop_i ?_; try walk_at "wp") | (refine ret_i ?_; try walk_at "wp") | (refine forr_i ?_; try walk_at "wp") | (refine iff_i ?_; try walk_at "wp") | (refine seti_i ?_; try walk_at "wp") | (refine augi_i ?_; try walk_at "wp") | (refine seta_i ?_; try walk_at "wp") | (refine skip_i ?_; try walk_at "wp")))
/-! Walks: ways, wishes. -/
theorem fold_inv {α β : Type} {f : β → α → β} {P : β → Prop} (h : ∀ b a, P b → P (f b a)) : ∀ (xs : List α) (b : β), P b → P (xs.foldl f b)
  | [], _, h0 => h0
  | x :: xs, b, h0 => fold_inv h xs _ (h b x h0)
theorem cnt_last_len (m : Mac) (t : Tr) : ((countedF m t).getLastD []).length ≤ m.n := by
  have q : ∀ r ∈ countedF m t, r.length ≤ m.n := by
    unfold countedF
    refine fold_inv (P := fun d => ∀ r ∈ d, List.length r ≤ m.n) (fun b a h r hr => ?_) _ _ (by simp)
    unfold cntRow at hr
    rw [List.mem_append, List.mem_singleton] at hr
    rcases hr with hr | hr
    · exact h r hr
    · rw [hr, row_len, List.length_replicate]
      exact Nat.le_refl _
  rw [List.getLastD_eq_getLast?]
  cases e : (countedF m t).getLast? with
  | none => simp
  | some r => exact q r (List.mem_of_getLast? e)
theorem d_ways (F : Nat → FS) (h1 : F 1 = S_counted) : Does F 4 2 b_ways S_ways := by
  rintro ds u K ⟨m, t, rfl, mo, hm10, ht, k⟩
  refine ⟨rfl, ?_⟩
  have k := keepK k
  have hn8 := mo.n
  simp only [st0]
  unfold b_ways
  walk_at "go"
  rw [h1]
  refine ⟨m, t, rfl, mo, hm10, ht, ?_⟩
  have hl := cnt_last_len m t
  unfold waysF at k
  generalize (countedF m t).getLastD [] = row at k hl ⊢
  walk_at "go"
  refine lc_f (fun x : Int × Nat => if decide ((x.2 : Int) ∈ m.en) = true then some (.int x.1) else none) (by rw [List.length_zipIdx]; simp only [LIM]; omega) (fun x hx J hj => ?_) ?_
  · walk_at "go"
    cases hb : decide ((x.2 : Int) ∈ m.en) <;> simp only [hb, if_true, Bool.false_eq_true, if_false] at hj <;> walk_at "go" <;> exact hj
  rw [fm_filter]
  walk_at "go"
  have e : ∀ xs : List (Int × Nat), (xs.map fun x => Dt.int x.1) = (xs.map (·.1)).map .int := fun xs => by
    rw [List.map_map]
    rfl
  refine ⟨_, by rw [e]; exact intsOf_map _, ?_⟩
  exact k
theorem d_wishes (F : Nat → FS) (h2 : F 2 = S_ways) : Does F 2 2 b_wishes S_wishes := by
  rintro ds u K ⟨m, t, rfl, mo, hm10, ht, k⟩
  refine ⟨rfl, ?_⟩
  have k := keepK k
  simp only [st0]
  unfold b_wishes
  walk_at "go"
  rw [h2]
  refine ⟨m, t, rfl, mo, hm10, ht, ?_⟩
  walk_at "go"
  exact k
theorem d_ring_wishes (F : Nat → FS) : Does F 10 2 b_ring_wishes S_ring_wishes := by
  rintro ds u K ⟨m, ring, rfl, mo, k⟩
  refine ⟨rfl, ?_⟩
  have k := keepK k
  have hn8 := mo.n
  have hfew := mo.few
  simp only [st0]
  unfold b_ring_wishes
  walk_at "go"
  refine ⟨by omega, ?_⟩
  have hw : ringWish m ring = (List.range m.n).any fun first => decide ((first : Int) ∈ ring.foldl (knownStep m) [(first : Int)]) := rfl
  rw [hw] at k
  refine for_I (fun i l2 u2 => u2 = u ∧ ((List.range m.n).take i).any (fun first => decide ((first : Int) ∈ ring.foldl (knownStep m) [(first : Int)])) = false ∧ ∃ a b c d e f g h, l2 = [some (macD m), some (liD ring), a, b, c, d, e, f, g, h]) ⟨rfl, rfl, _, _, _, _, _, _, _, _, rfl⟩ ?_ ?_
  · rintro i x l2 u2 hx ⟨rfl, hno, a, b, c, d, e, f, g, h, rfl⟩
    obtain ⟨rfl, hi⟩ := range_get hx
    have e0 : ((List.range m.n).take (x + 1)).any (fun first => decide ((first : Int) ∈ ring.foldl (knownStep m) [(first : Int)])) = decide ((x : Int) ∈ ring.foldl (knownStep m) [(x : Int)]) := by
      rw [List.take_add_one, hx, List.any_append, hno]
      simp
    rw [e0]
    walk_at "go"
    refine for_f (step := knownStep m) (b0 := [(x : Int)]) (fun known l2 u3 => u3 = u2 ∧ ∃ b c d e f g, l2 = [some (macD m), some (liD ring), some (.int (x : Nat)), some (liD known), b, c, d, e, f, g]) ⟨rfl, _, _, _, _, _, _, rfl⟩ ?_ ?_
    · rintro i2 letter l3 u3 hy ⟨rfl, b, c, d, e, f, g, rfl⟩
      generalize (ring.take i2).foldl (knownStep m) [(x : Int)] = known
      walk_at "go"
      refine lc_f (fun y : Mv => if (decide (y.1 = letter) && decide (y.2.1.length = 1)) = true then some (mvD y) else none) (by simp only [LIM]; omega) (fun y hy J hj => ?_) ?_
      · obtain ⟨a1, a2, a3⟩ := y
        simp only at hj
        walk_at "go"
        have e1 : decide ((a2.length : Int) = 1) = decide (a2.length = 1) := by
          have : ((a2.length : Int) = 1) ↔ (a2.length = 1) := by omega
          simp only [this]
        rw [e1]
        generalize decide (a1 = letter) = b1 at hj ⊢
        generalize decide (a2.length = 1) = b2 at hj ⊢
        cases b1 <;> cases b2 <;> simp only [Bool.and_true, Bool.and_false, if_true, Bool.false_eq_true, if_false] at hj <;> walk_at "go" <;> exact hj
      rw [fm_filter]
      walk_at "go"
      have hmov : ∀ z ∈ m.mv.filter (fun y : Mv => decide (y.1 = letter) && decide (y.2.1.length = 1)), z.2.1.length = 1 ∧ z ∈ m.mv := by
        intro z hz
        rw [List.mem_filter, Bool.and_eq_true] at hz
        exact ⟨of_decide_eq_true hz.2.2, hz.1⟩
      have hks : knownStep m known letter = ((m.mv.filter fun y : Mv => decide (y.1 = letter) && decide (y.2.1.length = 1)).filter fun y => decide (y.2.1.getD 0 0 ∈ known)).map (·.2.2) := rfl
      have hfl := List.length_filter_le (fun y : Mv => decide (y.1 = letter) && decide (y.2.1.length = 1)) m.mv
      rw [hks]
      generalize m.mv.filter (fun y : Mv => decide (y.1 = letter) && decide (y.2.1.length = 1)) = ms at hmov hfl ⊢
      refine lc_f (fun y : Mv => if decide (y.2.1.getD 0 0 ∈ known) = true then some (.int y.2.2) else none) (by simp only [LIM]; omega) (fun y hy J hj => ?_) ?_
      · obtain ⟨a1, a2, a3⟩ := y
        have h1 := (hmov _ hy).1
        simp only at hj h1
        obtain ⟨v, rfl⟩ : ∃ v, a2 = [v] := List.length_eq_one_iff.mp h1
        simp only [List.getD_cons_zero] at hj
        walk_at "go"
        cases hb : decide (v ∈ known) <;> simp only [hb, if_true, Bool.false_eq_true, if_false] at hj <;> walk_at "go" <;> exact hj
      rw [fm_filter]
      walk_at "go"
      simp [List.map_map]
    · rintro l4 u4 ⟨rfl, b, c, d, e, f, g, rfl⟩
      generalize hkn : ring.foldl (knownStep m) [(x : Int)] = known
      walk_at "go"
      cases hb : decide ((x : Int) ∈ known)
      · walk_at "go"
      · walk_at "go"
        have e9 : (List.range m.n).any (fun first => decide ((first : Int) ∈ ring.foldl (knownStep m) [(first : Int)])) = true := by
          rw [List.any_eq_true]
          exact ⟨x, List.mem_range.mpr hi, by rw [hkn]; exact hb⟩
        rw [e9] at k
        exact k
  · rintro l4 u4 ⟨rfl, hno, a, b, c, d, e, f, g, h, rfl⟩
    rw [List.take_length] at hno
    rw [hno] at k
    walk_at "go"
    exact k
end Ob
/-! part Hd -/
namespace Ob
open PySem L2
/-! the defs as data -/
def D_nodes_of : He.DefD := ⟨("nodes_of", none), "nodes_of", "nodes_of", defArgs s_nodes_of, defBody s_nodes_of, defScope s_nodes_of, [], []⟩
def D_counted : He.DefD := ⟨("counted", none), "counted", "counted", defArgs s_counted, defBody s_counted, defScope s_counted, [], []⟩
def D_ways : He.DefD := ⟨("ways", none), "ways", "ways", defArgs s_ways, defBody s_ways, defScope s_ways, [], []⟩
def D_wishes : He.DefD := ⟨("wishes", none), "wishes", "wishes", defArgs s_wishes, defBody s_wishes, defScope s_wishes, [], []⟩
def D_ring_wishes : He.DefD := ⟨("ring_wishes", none), "ring_wishes", "ring_wishes", defArgs s_ring_wishes, defBody s_ring_wishes, defScope s_ring_wishes, [], []⟩
def D_Found_init : He.DefD := ⟨("Found", some "__init__"), "__init__", "Found.__init__", defArgs s_Found_init, defBody s_Found_init, defScope s_Found_init, [], []⟩
def D_better : He.DefD := ⟨("better", none), "better", "better", defArgs s_better, defBody s_better, defScope s_better, [], []⟩
def D_below_of : He.DefD := ⟨("below_of", none), "below_of", "below_of", defArgs s_below_of, defBody s_below_of, defScope s_below_of, [], []⟩
def D_charged : He.DefD := ⟨("charged", none), "charged", "charged", defArgs s_charged, defBody s_charged, defScope s_charged, [], []⟩
def D_Reckoner_init : He.DefD := ⟨("Reckoner", some "__init__"), "__init__", "Reckoner.__init__", defArgs s_Reckoner_init, defBody s_Reckoner_init, defScope s_Reckoner_init, [], []⟩
def D_Reckoner_row : He.DefD := ⟨("Reckoner", some "row"), "row", "Reckoner.row", defArgs s_Reckoner_row, defBody s_Reckoner_row, defScope s_Reckoner_row, [], []⟩
def D_cost_of : He.DefD := ⟨("cost_of", none), "cost_of", "cost_of", defArgs s_cost_of, defBody s_cost_of, defScope s_cost_of, [], []⟩
def D_best : He.DefD := ⟨("best", none), "best", "best", defArgs s_best, defBody s_best, defScope s_best, [], []⟩
def D_fewest_objections : He.DefD := ⟨("fewest_objections", none), "fewest_objections", "fewest_objections", defArgs s_fewest_objections, defBody s_fewest_objections, defScope s_fewest_objections, [], []⟩
def D_after_change : He.DefD := ⟨("after_change", none), "after_change", "after_change", defArgs s_after_change, defBody s_after_change, defScope s_after_change, [], []⟩
def D_Machine_init : He.DefD := ⟨("Machine", some "__init__"), "__init__", "Machine.__init__", defArgs s_Machine_init, defBody s_Machine_init, defScope s_Machine_init, [], []⟩
def D_Ring_init : He.DefD := ⟨("Ring", some "__init__"), "__init__", "Ring.__init__", defArgs s_Ring_init, defBody s_Ring_init, defScope s_Ring_init, [], []⟩
def D_Ring_charge : He.DefD := ⟨("Ring", some "charge"), "charge", "Ring.charge", defArgs s_Ring_charge, defBody s_Ring_charge, defScope s_Ring_charge, [], []⟩
def D_Ring_rows : He.DefD := ⟨("Ring", some "rows"), "rows", "Ring.rows", defArgs s_Ring_rows, defBody s_Ring_rows, defScope s_Ring_rows, [], []⟩
def D_Ring_row : He.DefD := ⟨("Ring", some "row"), "row", "Ring.row", defArgs s_Ring_row, defBody s_Ring_row, defScope s_Ring_row, [], []⟩
def D_Ring_closed : He.DefD := ⟨("Ring", some "closed"), "closed", "Ring.closed", defArgs s_Ring_closed, defBody s_Ring_closed, defScope s_Ring_closed, [], []⟩
def D_best_ring : He.DefD := ⟨("best_ring", none), "best_ring", "best_ring", defArgs s_best_ring, defBody s_best_ring, defScope s_best_ring, [], []⟩
def D_law_pool : He.DefD := ⟨("_law_pool", none), "_law_pool", "_law_pool", defArgs s_law_pool, defBody s_law_pool, defScope s_law_pool, [], []⟩
def D_law_draw : He.DefD := ⟨("_law_draw", none), "_law_draw", "_law_draw", defArgs s_law_draw, defBody s_law_draw, defScope s_law_draw, [], []⟩
def D_law_same : He.DefD := ⟨("_law_same", none), "_law_same", "_law_same", defArgs s_law_same, defBody s_law_same, defScope s_law_same, [], []⟩
def D_law_machine : He.DefD := ⟨("_law_machine", none), "_law_machine", "_law_machine", defArgs s_law_machine, defBody s_law_machine, defScope s_law_machine, [], []⟩
def D_law_tree : He.DefD := ⟨("_law_tree", none), "_law_tree", "_law_tree", defArgs s_law_tree, defBody s_law_tree, defScope s_law_tree, [], []⟩
def D_law_nodes : He.DefD := ⟨("_law_nodes", none), "_law_nodes", "_law_nodes", defArgs s_law_nodes, defBody s_law_nodes, defScope s_law_nodes, [], []⟩
def D_law_row_tree : He.DefD := ⟨("_law_row_tree", none), "_law_row_tree", "_law_row_tree", defArgs s_law_row_tree, defBody s_law_row_tree, defScope s_law_row_tree, [], []⟩
def D_law_shape : He.DefD := ⟨("_law_shape", none), "_law_shape", "_law_shape", defArgs s_law_shape, defBody s_law_shape, defScope s_law_shape, [], []⟩
def D_law_objects : He.DefD := ⟨("_law_objects", none), "_law_objects", "_law_objects", defArgs s_law_objects, defBody s_law_objects, defScope s_law_objects, [], []⟩
def D_law_lists : He.DefD := ⟨("_law_lists", none), "_law_lists", "_law_lists", defArgs s_law_lists, defBody s_law_lists, defScope s_law_lists, [], []⟩
def D_law_made : He.DefD := ⟨("_law_made", none), "_law_made", "_law_made", defArgs s_law_made, defBody s_law_made, defScope s_law_made, [], []⟩
def D_law_prices : He.DefD := ⟨("_law_prices", none), "_law_prices", "_law_prices", defArgs s_law_prices, defBody s_law_prices, defScope s_law_prices, [], []⟩
def D_law_cost : He.DefD := ⟨("_law_cost", none), "_law_cost", "_law_cost", defArgs s_law_cost, defBody s_law_cost, defScope s_law_cost, [], []⟩
def D_law_ring_objects : He.DefD := ⟨("_law_ring_objects", none), "_law_ring_objects", "_law_ring_objects", defArgs s_law_ring_objects, defBody s_law_ring_objects, defScope s_law_ring_objects, [], []⟩
def D_law_best : He.DefD := ⟨("_law_best", none), "_law_best", "_law_best", defArgs s_law_best, defBody s_law_best, defScope s_law_best, [], []⟩
def D_law_least : He.DefD := ⟨("_law_least", none), "_law_least", "_law_least", defArgs s_law_least, defBody s_law_least, defScope s_law_least, [], []⟩
def D_law_root_row : He.DefD := ⟨("_law_root_row", none), "_law_root_row", "_law_root_row", defArgs s_law_root_row, defBody s_law_root_row, defScope s_law_root_row, [], []⟩
def D_law_numbers : He.DefD := ⟨("_law_numbers", none), "_law_numbers", "_law_numbers", defArgs s_law_numbers, defBody s_law_numbers, defScope s_law_numbers, [], []⟩
def D_law_step : He.DefD := ⟨("_law_step", none), "_law_step", "_law_step", defArgs s_law_step, defBody s_law_step, defScope s_law_step, [], []⟩
def D_law_ring_numbers : He.DefD := ⟨("_law_ring_numbers", none), "_law_ring_numbers", "_law_ring_numbers", defArgs s_law_ring_numbers, defBody s_law_ring_numbers, defScope s_law_ring_numbers, [], []⟩
def D_law_tree_due : He.DefD := ⟨("_law_tree_due", none), "_law_tree_due", "_law_tree_due", defArgs s_law_tree_due, defBody s_law_tree_due, defScope s_law_tree_due, [], []⟩
def D_law_tree_told : He.DefD := ⟨("_law_tree_told", none), "_law_tree_told", "_law_tree_told", defArgs s_law_tree_told, defBody s_law_tree_told, defScope s_law_tree_told, [], []⟩
def D_law_ring_due : He.DefD := ⟨("_law_ring_due", none), "_law_ring_due", "_law_ring_due", defArgs s_law_ring_due, defBody s_law_ring_due, defScope s_law_ring_due, [], []⟩
def D_law_ring_told : He.DefD := ⟨("_law_ring_told", none), "_law_ring_told", "_law_ring_told", defArgs s_law_ring_told, defBody s_law_ring_told, defScope s_law_ring_told, [], []⟩
def D_law_moved : He.DefD := ⟨("_law_moved", none), "_law_moved", "_law_moved", defArgs s_law_moved, defBody s_law_moved, defScope s_law_moved, [], []⟩
def D_law : He.DefD := ⟨("law", none), "law", "law", defArgs s_law, defBody s_law, defScope s_law, [], []⟩
def fn0 : List He.DefD := [D_nodes_of, D_counted, D_ways, D_wishes, D_ring_wishes, D_Found_init, D_better, D_below_of, D_charged, D_Reckoner_init, D_Reckoner_row, D_cost_of]
def fn1 : List He.DefD := [D_best, D_fewest_objections, D_after_change, D_Machine_init, D_Ring_init, D_Ring_charge, D_Ring_rows, D_Ring_row, D_Ring_closed, D_best_ring, D_law_pool, D_law_draw]
def fn2 : List He.DefD := [D_law_same, D_law_machine, D_law_tree, D_law_nodes, D_law_row_tree, D_law_shape, D_law_objects, D_law_lists, D_law_made, D_law_prices, D_law_cost, D_law_ring_objects]
def fn3 : List He.DefD := [D_law_best, D_law_least, D_law_root_row, D_law_numbers, D_law_step, D_law_ring_numbers, D_law_tree_due, D_law_tree_told, D_law_ring_due, D_law_ring_told, D_law_moved, D_law]
def fnAll : List He.DefD := fn0 ++ fn1 ++ fn2 ++ fn3
def faG : List Str := ["nodes_of", "counted", "ways", "wishes", "ring_wishes", "better", "below_of", "charged", "cost_of", "best", "fewest_objections", "after_change", "best_ring", "_law_pool", "_law_draw", "_law_same", "_law_machine", "_law_tree", "_law_nodes", "_law_row_tree", "_law_shape", "_law_objects", "_law_lists", "_law_made"]
def faH : List Str := ["_law_prices", "_law_cost", "_law_ring_objects", "_law_best", "_law_least", "_law_root_row", "_law_numbers", "_law_step", "_law_ring_numbers", "_law_tree_due", "_law_tree_told", "_law_ring_due", "_law_ring_told", "_law_moved", "law", "Machine", "Found", "Reckoner", "Ring"]
def faC : List (Str × Int) := [("MOST_LETTERS", 4), ("MOST_LABELS", 8), ("MOST_CHILDREN", 2)]
def faM : List (Str × Str) := [("Reckoner", "row"), ("Ring", "charge"), ("Ring", "rows"), ("Ring", "row"), ("Ring", "closed")]
def clsN : Nat → Str
  | 0 => "Machine" | 1 => "Found" | 2 => "Reckoner" | _ => "Ring"
def faAll : List He.Fa := freeNames.map .free ++ (faG.map .glo ++ (faH.map .glo ++ (faC.map (fun c => .int c.1 c.2) ++ (faM.map (fun c => .meth c.1 c.2) ++ ((List.range 4).map (fun c => .cls (clsN c)) ++ ((List.range 4).map (fun c => .mkr (clsN c)) ++ (List.range 4).flatMap fun c => (List.range 11).map fun i => .noat (clsN c) (atn i)))))))
/-- the whole, by names -/
abbrev Wo (P : Program) (w : World) (K : PySem.W.Frag) (mg : Str → Option Value) (base : Heap) : Wd := ⟨P, w, K, mg, base, fun c => He.ga K (clsN c)⟩
structure Hy (K : PySem.W.Frag) (h : Heap) (mg : Str → Option Value) : Prop where
  X : K.In h
  G : h.Ns mainGlobals mg
  c : He.SaysD faAll fnAll K
def S_no : FS := fun _ _ _ => False
def Fx (a b c : FS) : Nat → FS
  | 0 => S_nodes_of
  | 1 => S_counted
  | 2 => S_ways
  | 3 => S_wishes
  | 4 => S_ring_wishes
  | 5 => S_Found_init
  | 6 => S_better
  | 7 => S_below_of
  | 8 => S_charged
  | 9 => S_Reckoner_init
  | 10 => S_Reckoner_row
  | 11 => S_cost_of
  | 12 => S_best
  | 13 => S_fewest
  | 14 => S_after
  | 15 => S_Machine_init
  | 16 => S_Ring_init
  | 17 => S_Ring_charge
  | 18 => S_Ring_rows
  | 19 => S_Ring_row
  | 20 => S_Ring_closed
  | 21 => S_best_ring
  | 22 => S_pool
  | 23 => S_draw
  | 24 => a
  | 25 => S_lmachine
  | 26 => b
  | 27 => c
  | 28 => S_lrow_tree
  | 29 => S_lshape
  | 30 => S_lobjects
  | 31 => S_llists
  | 32 => S_lmade
  | 33 => S_lprices
  | 34 => S_lcost
  | 35 => S_lring_objects
  | 36 => S_lbest
  | 37 => S_lleast
  | 38 => S_lroot_row
  | 39 => S_lnumbers
  | 40 => S_lstep
  | 41 => S_lring_numbers
  | 42 => S_ltree_due
  | 43 => S_ltree_told
  | 44 => S_lring_due
  | 45 => S_lring_told
  | 46 => S_lmoved
  | 47 => S_law2
  | _ => S_no
section
variable {P : Program} {w : World} {K : PySem.W.Frag} {h : Heap} {mg : Str → Option Value} {base : Heap}
theorem Hy.fact (y : Hy K h mg) {f : He.Fa} (m : f ∈ faAll) : f.ok K = true := by
  obtain ⟨i, l, e⟩ := List.getElem_of_mem m
  exact y.c.fact i (by rw [List.getElem?_eq_getElem l, e])
theorem ap_r {α : Type} {x : α} {l r : List α} (h : x ∈ r) : x ∈ l ++ r := List.mem_append_right l h
theorem ap_l {α : Type} {x : α} {l r : List α} (h : x ∈ l) : x ∈ l ++ r := List.mem_append_left r h
theorem Hy.glo (y : Hy K h mg) {x : Str} (m : x ∈ faG ++ faH) : mg x = some (.ref (He.ga K x)) := by
  refine He.glo_ok y.X y.G (y.fact (ap_r ?_))
  rcases List.mem_append.mp m with m | m
  · exact ap_l (List.mem_map_of_mem m)
  · exact ap_r (ap_l (List.mem_map_of_mem m))
theorem Hy.free (y : Hy K h mg) {x : Str} (m : x ∈ freeNames) : mg x = none := He.free_ok y.X y.G (y.fact (ap_l (List.mem_map_of_mem m)))
theorem Hy.cst (y : Hy K h mg) {x : Str} {i : Int} (m : (x, i) ∈ faC) : ∃ t, mg x = some (.int i t) := He.int_ok y.X y.G (y.fact (ap_r (ap_r (ap_r (ap_l (List.mem_map_of_mem (f := fun c : Str × Int => He.Fa.int c.1 c.2) m))))))
theorem Hy.meth (y : Hy K h mg) {x m : Str} (z : (x, m) ∈ faM) : Meth K (He.ga K x) m (He.ma K (He.ga K x) m) := He.meth_ok (y.fact (ap_r (ap_r (ap_r (ap_r (ap_l (List.mem_map_of_mem (f := fun c : Str × Str => He.Fa.meth c.1 c.2) z)))))))
theorem Hy.cls (y : Hy K h mg) {c : Nat} (l : c < 4) : Cls K (He.ga K (clsN c)) := He.cls_ok (y.fact (ap_r (ap_r (ap_r (ap_r (ap_r (ap_l (List.mem_map_of_mem (f := fun c => He.Fa.cls (clsN c)) (List.mem_range.mpr l)))))))))
theorem Hy.mkr (y : Hy K h mg) {c : Nat} (l : c < 4) : Mk K (He.ga K (clsN c)) (He.ma K (He.ga K (clsN c)) "__init__") := He.mkr_ok (y.fact (ap_r (ap_r (ap_r (ap_r (ap_r (ap_r (ap_l (List.mem_map_of_mem (f := fun c => He.Fa.mkr (clsN c)) (List.mem_range.mpr l))))))))))
theorem Hy.noat (y : Hy K h mg) {c i : Nat} (l : c < 4) (q : i < 11) : NoAttr K (He.ga K (clsN c)) (atn i) := He.noat_ok (y.fact (ap_r (ap_r (ap_r (ap_r (ap_r (ap_r (ap_r (List.mem_flatMap.mpr ⟨c, List.mem_range.mpr l, List.mem_map_of_mem (f := fun i => He.Fa.noat (clsN c) (atn i)) (List.mem_range.mpr q)⟩)))))))))
theorem Hy.ok (y : Hy K h mg) : (Wo P w K mg base).Ok := ⟨fun x m => y.free m, fun c l => y.cls l, fun c i l q => y.noat l q⟩
theorem lk0 {α β : Type} [BEq α] {Q : α → β → Prop} : ∀ x j, ([] : List (α × β)).lookup x = some j → Q x j := fun x j e => by cases e
theorem lk1 {α β : Type} [BEq α] [LawfulBEq α] {Q : α → β → Prop} {a : α} {b : β} {l : List (α × β)} (h : Q a b) (t : ∀ x j, l.lookup x = some j → Q x j) : ∀ x j, ((a, b) :: l).lookup x = some j → Q x j := by
  intro x j e
  rw [List.lookup_cons] at e
  cases c : x == a with
  | true =>
    rw [c] at e
    cases e
    rw [eq_of_beq c]
    exact h
  | false =>
    rw [c] at e
    exact t x j e
theorem fn_no {k : Nat} {C : Ctx} {x qual : Str} {params : Arguments} {body : List Stmt} {scope : Scope} {f : Addr} {fd : FuncData} {ps : List Str} {W : Wd} (D : FunD W.K x qual params body scope [] [] f fd) (sc : FnScope C.N ps scope) : FnOk W.P W.w W.K W.mg W.base CX0 (k + 1) f fd ps (spF W S_no) := by
  refine D.ok sc (fun vs H Q E z => ?_) (fun cdv A outer s H vs Q E hr z => ?_)
  · obtain ⟨_, _, _, _, _, _, _, f, _⟩ := z
    exact f.elim
  · obtain ⟨_, _, _, _, _, _, _, f, _⟩ := z
    exact f.elim
theorem l_nodes_of (y : Hy K h mg) : FnAt (Wo P w K mg base) 1 "nodes_of" S_nodes_of := by
  obtain ⟨fd, D⟩ := y.c.def_ 0 (d := D_nodes_of) rfl
  exact fn_at (W := Wo P w K mg base) (y.glo (x := "nodes_of") (by decide +kernel)) D.kp (D.bindsN fun _ _ _ _ _ _ us hl => match us, hl with | [_], _ => rfl) (def_ok (W := Wo P w K mg base) (F := (Fx (S_same 5) (S_ltree 4) (S_lnodes 4))) (C := c_nodes_of) D sc_nodes_of rfl ⟨y.ok, by decide +kernel, (lk0 : ∀ x j, List.lookup x _ = some j → (fun x j => FnAt (Wo P w K mg base) _ x ((Fx (S_same 5) (S_ltree 4) (S_lnodes 4)) j)) x j), fun x c j e => (lk0 : ∀ x (q : Nat × Nat), List.lookup x _ = some q → (fun x (q : Nat × Nat) => NwAt (Wo P w K mg base) _ x q.1 ((Fx (S_same 5) (S_ltree 4) (S_lnodes 4)) q.2)) x q) x (c, j) e, fun x c j e => (lk0 : ∀ x (q : Nat × Nat), List.lookup x _ = some q → (fun x (q : Nat × Nat) => MtAt (Wo P w K mg base) _ x q.1 ((Fx (S_same 5) (S_ltree 4) (S_lnodes 4)) q.2)) x q) x (c, j) e, (lk0 : ∀ x (i : Int), List.lookup x _ = some i → (fun x i => ∃ t, mg x = some (.int i t)) x i)⟩ t_nodes_of (d_nodes_of (Fx (S_same 5) (S_ltree 4) (S_lnodes 4)) ))
theorem l_counted (y : Hy K h mg) : FnAt (Wo P w K mg base) 2 "counted" S_counted := by
  obtain ⟨fd, D⟩ := y.c.def_ 1 (d := D_counted) rfl
  exact fn_at (W := Wo P w K mg base) (y.glo (x := "counted") (by decide +kernel)) D.kp (D.bindsN fun _ _ _ _ _ _ us hl => match us, hl with | [_, _], _ => rfl) (def_ok (W := Wo P w K mg base) (F := (Fx (S_same 5) (S_ltree 4) (S_lnodes 4))) (C := c_counted) D sc_counted rfl ⟨y.ok, by decide +kernel, ((lk1 (FnAt.mono (l_nodes_of y) (by decide)) lk0) : ∀ x j, List.lookup x _ = some j → (fun x j => FnAt (Wo P w K mg base) _ x ((Fx (S_same 5) (S_ltree 4) (S_lnodes 4)) j)) x j), fun x c j e => (lk0 : ∀ x (q : Nat × Nat), List.lookup x _ = some q → (fun x (q : Nat × Nat) => NwAt (Wo P w K mg base) _ x q.1 ((Fx (S_same 5) (S_ltree 4) (S_lnodes 4)) q.2)) x q) x (c, j) e, fun x c j e => (lk0 : ∀ x (q : Nat × Nat), List.lookup x _ = some q → (fun x (q : Nat × Nat) => MtAt (Wo P w K mg base) _ x q.1 ((Fx (S_same 5) (S_ltree 4) (S_lnodes 4)) q.2)) x q) x (c, j) e, (lk0 : ∀ x (i : Int), List.lookup x _ = some i → (fun x i => ∃ t, mg x = some (.int i t)) x i)⟩ t_counted (d_counted (Fx (S_same 5) (S_ltree 4) (S_lnodes 4)) rfl))
theorem l_ways (y : Hy K h mg) : FnAt (Wo P w K mg base) 3 "ways" S_ways := by
  obtain ⟨fd, D⟩ := y.c.def_ 2 (d := D_ways) rfl
  exact fn_at (W := Wo P w K mg base) (y.glo (x := "ways") (by decide +kernel)) D.kp (D.bindsN fun _ _ _ _ _ _ us hl => match us, hl with | [_, _], _ => rfl) (def_ok (W := Wo P w K mg base) (F := (Fx (S_same 5) (S_ltree 4) (S_lnodes 4))) (C := c_ways) D sc_ways rfl ⟨y.ok, by decide +kernel, ((lk1 (FnAt.mono (l_counted y) (by decide)) lk0) : ∀ x j, List.lookup x _ = some j → (fun x j => FnAt (Wo P w K mg base) _ x ((Fx (S_same 5) (S_ltree 4) (S_lnodes 4)) j)) x j), fun x c j e => (lk0 : ∀ x (q : Nat × Nat), List.lookup x _ = some q → (fun x (q : Nat × Nat) => NwAt (Wo P w K mg base) _ x q.1 ((Fx (S_same 5) (S_ltree 4) (S_lnodes 4)) q.2)) x q) x (c, j) e, fun x c j e => (lk0 : ∀ x (q : Nat × Nat), List.lookup x _ = some q → (fun x (q : Nat × Nat) => MtAt (Wo P w K mg base) _ x q.1 ((Fx (S_same 5) (S_ltree 4) (S_lnodes 4)) q.2)) x q) x (c, j) e, (lk0 : ∀ x (i : Int), List.lookup x _ = some i → (fun x i => ∃ t, mg x = some (.int i t)) x i)⟩ t_ways (d_ways (Fx (S_same 5) (S_ltree 4) (S_lnodes 4)) rfl))
theorem l_wishes (y : Hy K h mg) : FnAt (Wo P w K mg base) 4 "wishes" S_wishes := by
  obtain ⟨fd, D⟩ := y.c.def_ 3 (d := D_wishes) rfl
  exact fn_at (W := Wo P w K mg base) (y.glo (x := "wishes") (by decide +kernel)) D.kp (D.bindsN fun _ _ _ _ _ _ us hl => match us, hl with | [_, _], _ => rfl) (def_ok (W := Wo P w K mg base) (F := (Fx (S_same 5) (S_ltree 4) (S_lnodes 4))) (C := c_wishes) D sc_wishes rfl ⟨y.ok, by decide +kernel, ((lk1 (FnAt.mono (l_ways y) (by decide)) lk0) : ∀ x j, List.lookup x _ = some j → (fun x j => FnAt (Wo P w K mg base) _ x ((Fx (S_same 5) (S_ltree 4) (S_lnodes 4)) j)) x j), fun x c j e => (lk0 : ∀ x (q : Nat × Nat), List.lookup x _ = some q → (fun x (q : Nat × Nat) => NwAt (Wo P w K mg base) _ x q.1 ((Fx (S_same 5) (S_ltree 4) (S_lnodes 4)) q.2)) x q) x (c, j) e, fun x c j e => (lk0 : ∀ x (q : Nat × Nat), List.lookup x _ = some q → (fun x (q : Nat × Nat) => MtAt (Wo P w K mg base) _ x q.1 ((Fx (S_same 5) (S_ltree 4) (S_lnodes 4)) q.2)) x q) x (c, j) e, (lk0 : ∀ x (i : Int), List.lookup x _ = some i → (fun x i => ∃ t, mg x = some (.int i t)) x i)⟩ t_wishes (d_wishes (Fx (S_same 5) (S_ltree 4) (S_lnodes 4)) rfl))
theorem l_ring_wishes (y : Hy K h mg) : FnAt (Wo P w K mg base) 1 "ring_wishes" S_ring_wishes := by
  obtain ⟨fd, D⟩ := y.c.def_ 4 (d := D_ring_wishes) rfl
  exact fn_at (W := Wo P w K mg base) (y.glo (x := "ring_wishes") (by decide +kernel)) D.kp (D.bindsN fun _ _ _ _ _ _ us hl => match us, hl with | [_, _], _ => rfl) (def_ok (W := Wo P w K mg base) (F := (Fx (S_same 5) (S_ltree 4) (S_lnodes 4))) (C := c_ring_wishes) D sc_ring_wishes rfl ⟨y.ok, by decide +kernel, (lk0 : ∀ x j, List.lookup x _ = some j → (fun x j => FnAt (Wo P w K mg base) _ x ((Fx (S_same 5) (S_ltree 4) (S_lnodes 4)) j)) x j), fun x c j e => (lk0 : ∀ x (q : Nat × Nat), List.lookup x _ = some q → (fun x (q : Nat × Nat) => NwAt (Wo P w K mg base) _ x q.1 ((Fx (S_same 5) (S_ltree 4) (S_lnodes 4)) q.2)) x q) x (c, j) e, fun x c j e => (lk0 : ∀ x (q : Nat × Nat), List.lookup x _ = some q → (fun x (q : Nat × Nat) => MtAt (Wo P w K mg base) _ x q.1 ((Fx (S_same 5) (S_ltree 4) (S_lnodes 4)) q.2)) x q) x (c, j) e, (lk0 : ∀ x (i : Int), List.lookup x _ = some i → (fun x i => ∃ t, mg x = some (.int i t)) x i)⟩ t_ring_wishes (d_ring_wishes (Fx (S_same 5) (S_ltree 4) (S_lnodes 4)) ))
theorem l_Found_init (y : Hy K h mg) : NwAt (Wo P w K mg base) (1 + 1) "Found" 1 S_Found_init := by
  obtain ⟨fd, D⟩ := y.c.def_ 5 (d := D_Found_init) rfl
  exact ⟨by decide, _, fd, _, 1, Nat.le_refl _, y.glo (x := "Found") (by decide +kernel), y.mkr (c := 1) (by decide), (D.bindsN fun _ _ _ _ _ _ us hl => match us, hl with | [_, _, _, _, _, _], _ => rfl), (def_ok (W := Wo P w K mg base) (F := (Fx (S_same 5) (S_ltree 4) (S_lnodes 4))) (C := c_Found_init) D sc_Found_init rfl ⟨y.ok, by decide +kernel, (lk0 : ∀ x j, List.lookup x _ = some j → (fun x j => FnAt (Wo P w K mg base) _ x ((Fx (S_same 5) (S_ltree 4) (S_lnodes 4)) j)) x j), fun x c j e => (lk0 : ∀ x (q : Nat × Nat), List.lookup x _ = some q → (fun x (q : Nat × Nat) => NwAt (Wo P w K mg base) _ x q.1 ((Fx (S_same 5) (S_ltree 4) (S_lnodes 4)) q.2)) x q) x (c, j) e, fun x c j e => (lk0 : ∀ x (q : Nat × Nat), List.lookup x _ = some q → (fun x (q : Nat × Nat) => MtAt (Wo P w K mg base) _ x q.1 ((Fx (S_same 5) (S_ltree 4) (S_lnodes 4)) q.2)) x q) x (c, j) e, (lk0 : ∀ x (i : Int), List.lookup x _ = some i → (fun x i => ∃ t, mg x = some (.int i t)) x i)⟩ t_Found_init (d_Found_init (Fx (S_same 5) (S_ltree 4) (S_lnodes 4)) ))⟩
theorem l_better (y : Hy K h mg) : FnAt (Wo P w K mg base) 1 "better" S_better := by
  obtain ⟨fd, D⟩ := y.c.def_ 6 (d := D_better) rfl
  exact fn_at (W := Wo P w K mg base) (y.glo (x := "better") (by decide +kernel)) D.kp (D.bindsN fun _ _ _ _ _ _ us hl => match us, hl with | [_, _], _ => rfl) (def_ok (W := Wo P w K mg base) (F := (Fx (S_same 5) (S_ltree 4) (S_lnodes 4))) (C := c_better) D sc_better rfl ⟨y.ok, by decide +kernel, (lk0 : ∀ x j, List.lookup x _ = some j → (fun x j => FnAt (Wo P w K mg base) _ x ((Fx (S_same 5) (S_ltree 4) (S_lnodes 4)) j)) x j), fun x c j e => (lk0 : ∀ x (q : Nat × Nat), List.lookup x _ = some q → (fun x (q : Nat × Nat) => NwAt (Wo P w K mg base) _ x q.1 ((Fx (S_same 5) (S_ltree 4) (S_lnodes 4)) q.2)) x q) x (c, j) e, fun x c j e => (lk0 : ∀ x (q : Nat × Nat), List.lookup x _ = some q → (fun x (q : Nat × Nat) => MtAt (Wo P w K mg base) _ x q.1 ((Fx (S_same 5) (S_ltree 4) (S_lnodes 4)) q.2)) x q) x (c, j) e, (lk0 : ∀ x (i : Int), List.lookup x _ = some i → (fun x i => ∃ t, mg x = some (.int i t)) x i)⟩ t_better (d_better (Fx (S_same 5) (S_ltree 4) (S_lnodes 4)) ))
theorem l_below_of (y : Hy K h mg) : FnAt (Wo P w K mg base) 1 "below_of" S_below_of := by
  obtain ⟨fd, D⟩ := y.c.def_ 7 (d := D_below_of) rfl
  exact fn_at (W := Wo P w K mg base) (y.glo (x := "below_of") (by decide +kernel)) D.kp (D.bindsN fun _ _ _ _ _ _ us hl => match us, hl with | [_, _], _ => rfl) (def_ok (W := Wo P w K mg base) (F := (Fx (S_same 5) (S_ltree 4) (S_lnodes 4))) (C := c_below_of) D sc_below_of rfl ⟨y.ok, by decide +kernel, (lk0 : ∀ x j, List.lookup x _ = some j → (fun x j => FnAt (Wo P w K mg base) _ x ((Fx (S_same 5) (S_ltree 4) (S_lnodes 4)) j)) x j), fun x c j e => (lk0 : ∀ x (q : Nat × Nat), List.lookup x _ = some q → (fun x (q : Nat × Nat) => NwAt (Wo P w K mg base) _ x q.1 ((Fx (S_same 5) (S_ltree 4) (S_lnodes 4)) q.2)) x q) x (c, j) e, fun x c j e => (lk0 : ∀ x (q : Nat × Nat), List.lookup x _ = some q → (fun x (q : Nat × Nat) => MtAt (Wo P w K mg base) _ x q.1 ((Fx (S_same 5) (S_ltree 4) (S_lnodes 4)) q.2)) x q) x (c, j) e, (lk0 : ∀ x (i : Int), List.lookup x _ = some i → (fun x i => ∃ t, mg x = some (.int i t)) x i)⟩ t_below_of (d_below_of (Fx (S_same 5) (S_ltree 4) (S_lnodes 4)) ))
theorem l_charged (y : Hy K h mg) : FnAt (Wo P w K mg base) 1 "charged" S_charged := by
  obtain ⟨fd, D⟩ := y.c.def_ 8 (d := D_charged) rfl
  exact fn_at (W := Wo P w K mg base) (y.glo (x := "charged") (by decide +kernel)) D.kp (D.bindsN fun _ _ _ _ _ _ us hl => match us, hl with | [_, _, _], _ => rfl) (def_ok (W := Wo P w K mg base) (F := (Fx (S_same 5) (S_ltree 4) (S_lnodes 4))) (C := c_charged) D sc_charged rfl ⟨y.ok, by decide +kernel, (lk0 : ∀ x j, List.lookup x _ = some j → (fun x j => FnAt (Wo P w K mg base) _ x ((Fx (S_same 5) (S_ltree 4) (S_lnodes 4)) j)) x j), fun x c j e => (lk0 : ∀ x (q : Nat × Nat), List.lookup x _ = some q → (fun x (q : Nat × Nat) => NwAt (Wo P w K mg base) _ x q.1 ((Fx (S_same 5) (S_ltree 4) (S_lnodes 4)) q.2)) x q) x (c, j) e, fun x c j e => (lk0 : ∀ x (q : Nat × Nat), List.lookup x _ = some q → (fun x (q : Nat × Nat) => MtAt (Wo P w K mg base) _ x q.1 ((Fx (S_same 5) (S_ltree 4) (S_lnodes 4)) q.2)) x q) x (c, j) e, (lk0 : ∀ x (i : Int), List.lookup x _ = some i → (fun x i => ∃ t, mg x = some (.int i t)) x i)⟩ t_charged (d_charged (Fx (S_same 5) (S_ltree 4) (S_lnodes 4)) ))
theorem l_Reckoner_init (y : Hy K h mg) : NwAt (Wo P w K mg base) (1 + 1) "Reckoner" 2 S_Reckoner_init := by
  obtain ⟨fd, D⟩ := y.c.def_ 9 (d := D_Reckoner_init) rfl
  exact ⟨by decide, _, fd, _, 1, Nat.le_refl _, y.glo (x := "Reckoner") (by decide +kernel), y.mkr (c := 2) (by decide), (D.bindsN fun _ _ _ _ _ _ us hl => match us, hl with | [_, _, _, _], _ => rfl), (def_ok (W := Wo P w K mg base) (F := (Fx (S_same 5) (S_ltree 4) (S_lnodes 4))) (C := c_Reckoner_init) D sc_Reckoner_init rfl ⟨y.ok, by decide +kernel, (lk0 : ∀ x j, List.lookup x _ = some j → (fun x j => FnAt (Wo P w K mg base) _ x ((Fx (S_same 5) (S_ltree 4) (S_lnodes 4)) j)) x j), fun x c j e => (lk0 : ∀ x (q : Nat × Nat), List.lookup x _ = some q → (fun x (q : Nat × Nat) => NwAt (Wo P w K mg base) _ x q.1 ((Fx (S_same 5) (S_ltree 4) (S_lnodes 4)) q.2)) x q) x (c, j) e, fun x c j e => (lk0 : ∀ x (q : Nat × Nat), List.lookup x _ = some q → (fun x (q : Nat × Nat) => MtAt (Wo P w K mg base) _ x q.1 ((Fx (S_same 5) (S_ltree 4) (S_lnodes 4)) q.2)) x q) x (c, j) e, (lk0 : ∀ x (i : Int), List.lookup x _ = some i → (fun x i => ∃ t, mg x = some (.int i t)) x i)⟩ t_Reckoner_init (d_Reckoner_init (Fx (S_same 5) (S_ltree 4) (S_lnodes 4)) ))⟩
theorem l_Reckoner_row (y : Hy K h mg) : MtAt (Wo P w K mg base) 2 "row" 2 S_Reckoner_row := by
  obtain ⟨fd, D⟩ := y.c.def_ 10 (d := D_Reckoner_row) rfl
  exact ⟨by decide, _, fd, _, y.meth (x := "Reckoner") (m := "row") (by decide +kernel), (D.bindsN fun _ _ _ _ _ _ us hl => match us, hl with | [_, _, _, _, _], _ => rfl), (def_ok (W := Wo P w K mg base) (F := (Fx (S_same 5) (S_ltree 4) (S_lnodes 4))) (C := c_Reckoner_row) D sc_Reckoner_row rfl ⟨y.ok, by decide +kernel, ((lk1 (FnAt.mono (l_charged y) (by decide)) (lk1 (FnAt.mono (l_better y) (by decide)) lk0)) : ∀ x j, List.lookup x _ = some j → (fun x j => FnAt (Wo P w K mg base) _ x ((Fx (S_same 5) (S_ltree 4) (S_lnodes 4)) j)) x j), fun x c j e => (lk0 : ∀ x (q : Nat × Nat), List.lookup x _ = some q → (fun x (q : Nat × Nat) => NwAt (Wo P w K mg base) _ x q.1 ((Fx (S_same 5) (S_ltree 4) (S_lnodes 4)) q.2)) x q) x (c, j) e, fun x c j e => (lk0 : ∀ x (q : Nat × Nat), List.lookup x _ = some q → (fun x (q : Nat × Nat) => MtAt (Wo P w K mg base) _ x q.1 ((Fx (S_same 5) (S_ltree 4) (S_lnodes 4)) q.2)) x q) x (c, j) e, (lk0 : ∀ x (i : Int), List.lookup x _ = some i → (fun x i => ∃ t, mg x = some (.int i t)) x i)⟩ t_Reckoner_row (d_Reckoner_row (Fx (S_same 5) (S_ltree 4) (S_lnodes 4)) rfl rfl))⟩
theorem l_cost_of (y : Hy K h mg) : FnAt (Wo P w K mg base) 1 "cost_of" S_cost_of := by
  obtain ⟨fd, D⟩ := y.c.def_ 11 (d := D_cost_of) rfl
  exact fn_at (W := Wo P w K mg base) (y.glo (x := "cost_of") (by decide +kernel)) D.kp (D.bindsN fun _ _ _ _ _ _ us hl => match us, hl with | [_], _ => rfl) (def_ok (W := Wo P w K mg base) (F := (Fx (S_same 5) (S_ltree 4) (S_lnodes 4))) (C := c_cost_of) D sc_cost_of rfl ⟨y.ok, by decide +kernel, (lk0 : ∀ x j, List.lookup x _ = some j → (fun x j => FnAt (Wo P w K mg base) _ x ((Fx (S_same 5) (S_ltree 4) (S_lnodes 4)) j)) x j), fun x c j e => (lk0 : ∀ x (q : Nat × Nat), List.lookup x _ = some q → (fun x (q : Nat × Nat) => NwAt (Wo P w K mg base) _ x q.1 ((Fx (S_same 5) (S_ltree 4) (S_lnodes 4)) q.2)) x q) x (c, j) e, fun x c j e => (lk0 : ∀ x (q : Nat × Nat), List.lookup x _ = some q → (fun x (q : Nat × Nat) => MtAt (Wo P w K mg base) _ x q.1 ((Fx (S_same 5) (S_ltree 4) (S_lnodes 4)) q.2)) x q) x (c, j) e, (lk0 : ∀ x (i : Int), List.lookup x _ = some i → (fun x i => ∃ t, mg x = some (.int i t)) x i)⟩ t_cost_of (d_cost_of (Fx (S_same 5) (S_ltree 4) (S_lnodes 4)) ))
theorem l_best (y : Hy K h mg) : FnAt (Wo P w K mg base) 3 "best" S_best := by
  obtain ⟨fd, D⟩ := y.c.def_ 12 (d := D_best) rfl
  exact fn_at (W := Wo P w K mg base) (y.glo (x := "best") (by decide +kernel)) D.kp (D.bindsN fun _ _ _ _ _ _ us hl => match us, hl with | [_, _, _, _], _ => rfl) (def_ok (W := Wo P w K mg base) (F := (Fx (S_same 5) (S_ltree 4) (S_lnodes 4))) (C := c_best) D sc_best rfl ⟨y.ok, by decide +kernel, ((lk1 (FnAt.mono (l_nodes_of y) (by decide)) (lk1 (FnAt.mono (l_below_of y) (by decide)) (lk1 (FnAt.mono (l_better y) (by decide)) (lk1 (FnAt.mono (l_cost_of y) (by decide)) lk0)))) : ∀ x j, List.lookup x _ = some j → (fun x j => FnAt (Wo P w K mg base) _ x ((Fx (S_same 5) (S_ltree 4) (S_lnodes 4)) j)) x j), fun x c j e => ((lk1 (NwAt.mono (l_Reckoner_init y) (by decide)) (lk1 (NwAt.mono (l_Found_init y) (by decide)) lk0)) : ∀ x (q : Nat × Nat), List.lookup x _ = some q → (fun x (q : Nat × Nat) => NwAt (Wo P w K mg base) _ x q.1 ((Fx (S_same 5) (S_ltree 4) (S_lnodes 4)) q.2)) x q) x (c, j) e, fun x c j e => ((lk1 (MtAt.mono (l_Reckoner_row y) (by decide)) lk0) : ∀ x (q : Nat × Nat), List.lookup x _ = some q → (fun x (q : Nat × Nat) => MtAt (Wo P w K mg base) _ x q.1 ((Fx (S_same 5) (S_ltree 4) (S_lnodes 4)) q.2)) x q) x (c, j) e, (lk0 : ∀ x (i : Int), List.lookup x _ = some i → (fun x i => ∃ t, mg x = some (.int i t)) x i)⟩ t_best (d_best (Fx (S_same 5) (S_ltree 4) (S_lnodes 4)) rfl rfl rfl rfl rfl rfl rfl))
theorem l_fewest_objections (y : Hy K h mg) : FnAt (Wo P w K mg base) 4 "fewest_objections" S_fewest := by
  obtain ⟨fd, D⟩ := y.c.def_ 13 (d := D_fewest_objections) rfl
  exact fn_at (W := Wo P w K mg base) (y.glo (x := "fewest_objections") (by decide +kernel)) D.kp (D.bindsN fun _ _ _ _ _ _ us hl => match us, hl with | [_, _], _ => rfl) (def_ok (W := Wo P w K mg base) (F := (Fx (S_same 5) (S_ltree 4) (S_lnodes 4))) (C := c_fewest_objections) D sc_fewest_objections rfl ⟨y.ok, by decide +kernel, ((lk1 (FnAt.mono (l_best y) (by decide)) (lk1 (FnAt.mono (l_nodes_of y) (by decide)) lk0)) : ∀ x j, List.lookup x _ = some j → (fun x j => FnAt (Wo P w K mg base) _ x ((Fx (S_same 5) (S_ltree 4) (S_lnodes 4)) j)) x j), fun x c j e => (lk0 : ∀ x (q : Nat × Nat), List.lookup x _ = some q → (fun x (q : Nat × Nat) => NwAt (Wo P w K mg base) _ x q.1 ((Fx (S_same 5) (S_ltree 4) (S_lnodes 4)) q.2)) x q) x (c, j) e, fun x c j e => (lk0 : ∀ x (q : Nat × Nat), List.lookup x _ = some q → (fun x (q : Nat × Nat) => MtAt (Wo P w K mg base) _ x q.1 ((Fx (S_same 5) (S_ltree 4) (S_lnodes 4)) q.2)) x q) x (c, j) e, (lk0 : ∀ x (i : Int), List.lookup x _ = some i → (fun x i => ∃ t, mg x = some (.int i t)) x i)⟩ t_fewest_objections (d_fewest (Fx (S_same 5) (S_ltree 4) (S_lnodes 4)) rfl rfl))
theorem l_after_change (y : Hy K h mg) : FnAt (Wo P w K mg base) 4 "after_change" S_after := by
  obtain ⟨fd, D⟩ := y.c.def_ 14 (d := D_after_change) rfl
  exact fn_at (W := Wo P w K mg base) (y.glo (x := "after_change") (by decide +kernel)) D.kp (D.bindsN fun _ _ _ _ _ _ us hl => match us, hl with | [_, _, _], _ => rfl) (def_ok (W := Wo P w K mg base) (F := (Fx (S_same 5) (S_ltree 4) (S_lnodes 4))) (C := c_after_change) D sc_after_change rfl ⟨y.ok, by decide +kernel, ((lk1 (FnAt.mono (l_best y) (by decide)) lk0) : ∀ x j, List.lookup x _ = some j → (fun x j => FnAt (Wo P w K mg base) _ x ((Fx (S_same 5) (S_ltree 4) (S_lnodes 4)) j)) x j), fun x c j e => (lk0 : ∀ x (q : Nat × Nat), List.lookup x _ = some q → (fun x (q : Nat × Nat) => NwAt (Wo P w K mg base) _ x q.1 ((Fx (S_same 5) (S_ltree 4) (S_lnodes 4)) q.2)) x q) x (c, j) e, fun x c j e => (lk0 : ∀ x (q : Nat × Nat), List.lookup x _ = some q → (fun x (q : Nat × Nat) => MtAt (Wo P w K mg base) _ x q.1 ((Fx (S_same 5) (S_ltree 4) (S_lnodes 4)) q.2)) x q) x (c, j) e, (lk0 : ∀ x (i : Int), List.lookup x _ = some i → (fun x i => ∃ t, mg x = some (.int i t)) x i)⟩ t_after_change (d_after (Fx (S_same 5) (S_ltree 4) (S_lnodes 4)) rfl))
theorem l_Machine_init (y : Hy K h mg) : NwAt (Wo P w K mg base) (1 + 1) "Machine" 0 S_Machine_init := by
  obtain ⟨fd, D⟩ := y.c.def_ 15 (d := D_Machine_init) rfl
  exact ⟨by decide, _, fd, _, 1, Nat.le_refl _, y.glo (x := "Machine") (by decide +kernel), y.mkr (c := 0) (by decide), (D.bindsN fun _ _ _ _ _ _ us hl => match us, hl with | [_, _, _, _, _], _ => rfl), (def_ok (W := Wo P w K mg base) (F := (Fx (S_same 5) (S_ltree 4) (S_lnodes 4))) (C := c_Machine_init) D sc_Machine_init rfl ⟨y.ok, by decide +kernel, (lk0 : ∀ x j, List.lookup x _ = some j → (fun x j => FnAt (Wo P w K mg base) _ x ((Fx (S_same 5) (S_ltree 4) (S_lnodes 4)) j)) x j), fun x c j e => (lk0 : ∀ x (q : Nat × Nat), List.lookup x _ = some q → (fun x (q : Nat × Nat) => NwAt (Wo P w K mg base) _ x q.1 ((Fx (S_same 5) (S_ltree 4) (S_lnodes 4)) q.2)) x q) x (c, j) e, fun x c j e => (lk0 : ∀ x (q : Nat × Nat), List.lookup x _ = some q → (fun x (q : Nat × Nat) => MtAt (Wo P w K mg base) _ x q.1 ((Fx (S_same 5) (S_ltree 4) (S_lnodes 4)) q.2)) x q) x (c, j) e, ((lk1 (y.cst (by decide +kernel)) (lk1 (y.cst (by decide +kernel)) (lk1 (y.cst (by decide +kernel)) lk0))) : ∀ x (i : Int), List.lookup x _ = some i → (fun x i => ∃ t, mg x = some (.int i t)) x i)⟩ t_Machine_init (d_Machine_init (Fx (S_same 5) (S_ltree 4) (S_lnodes 4)) ))⟩
theorem l_Ring_init (y : Hy K h mg) : NwAt (Wo P w K mg base) (1 + 1) "Ring" 3 S_Ring_init := by
  obtain ⟨fd, D⟩ := y.c.def_ 16 (d := D_Ring_init) rfl
  exact ⟨by decide, _, fd, _, 1, Nat.le_refl _, y.glo (x := "Ring") (by decide +kernel), y.mkr (c := 3) (by decide), (D.bindsN fun _ _ _ _ _ _ us hl => match us, hl with | [_, _, _, _, _], _ => rfl), (def_ok (W := Wo P w K mg base) (F := (Fx (S_same 5) (S_ltree 4) (S_lnodes 4))) (C := c_Ring_init) D sc_Ring_init rfl ⟨y.ok, by decide +kernel, (lk0 : ∀ x j, List.lookup x _ = some j → (fun x j => FnAt (Wo P w K mg base) _ x ((Fx (S_same 5) (S_ltree 4) (S_lnodes 4)) j)) x j), fun x c j e => (lk0 : ∀ x (q : Nat × Nat), List.lookup x _ = some q → (fun x (q : Nat × Nat) => NwAt (Wo P w K mg base) _ x q.1 ((Fx (S_same 5) (S_ltree 4) (S_lnodes 4)) q.2)) x q) x (c, j) e, fun x c j e => (lk0 : ∀ x (q : Nat × Nat), List.lookup x _ = some q → (fun x (q : Nat × Nat) => MtAt (Wo P w K mg base) _ x q.1 ((Fx (S_same 5) (S_ltree 4) (S_lnodes 4)) q.2)) x q) x (c, j) e, (lk0 : ∀ x (i : Int), List.lookup x _ = some i → (fun x i => ∃ t, mg x = some (.int i t)) x i)⟩ t_Ring_init (d_Ring_init (Fx (S_same 5) (S_ltree 4) (S_lnodes 4)) ))⟩
theorem l_Ring_charge (y : Hy K h mg) : MtAt (Wo P w K mg base) 2 "charge" 3 S_Ring_charge := by
  obtain ⟨fd, D⟩ := y.c.def_ 17 (d := D_Ring_charge) rfl
  exact ⟨by decide, _, fd, _, y.meth (x := "Ring") (m := "charge") (by decide +kernel), (D.bindsN fun _ _ _ _ _ _ us hl => match us, hl with | [_, _, _, _, _], _ => rfl), (def_ok (W := Wo P w K mg base) (F := (Fx (S_same 5) (S_ltree 4) (S_lnodes 4))) (C := c_Ring_charge) D sc_Ring_charge rfl ⟨y.ok, by decide +kernel, ((lk1 (FnAt.mono (l_charged y) (by decide)) lk0) : ∀ x j, List.lookup x _ = some j → (fun x j => FnAt (Wo P w K mg base) _ x ((Fx (S_same 5) (S_ltree 4) (S_lnodes 4)) j)) x j), fun x c j e => (lk0 : ∀ x (q : Nat × Nat), List.lookup x _ = some q → (fun x (q : Nat × Nat) => NwAt (Wo P w K mg base) _ x q.1 ((Fx (S_same 5) (S_ltree 4) (S_lnodes 4)) q.2)) x q) x (c, j) e, fun x c j e => (lk0 : ∀ x (q : Nat × Nat), List.lookup x _ = some q → (fun x (q : Nat × Nat) => MtAt (Wo P w K mg base) _ x q.1 ((Fx (S_same 5) (S_ltree 4) (S_lnodes 4)) q.2)) x q) x (c, j) e, (lk0 : ∀ x (i : Int), List.lookup x _ = some i → (fun x i => ∃ t, mg x = some (.int i t)) x i)⟩ t_Ring_charge (d_Ring_charge (Fx (S_same 5) (S_ltree 4) (S_lnodes 4)) rfl))⟩
theorem l_Ring_row (y : Hy K h mg) : MtAt (Wo P w K mg base) 3 "row" 3 S_Ring_row := by
  obtain ⟨fd, D⟩ := y.c.def_ 19 (d := D_Ring_row) rfl
  exact ⟨by decide, _, fd, _, y.meth (x := "Ring") (m := "row") (by decide +kernel), (D.bindsN fun _ _ _ _ _ _ us hl => match us, hl with | [_, _, _], _ => rfl), (def_ok (W := Wo P w K mg base) (F := (Fx (S_same 5) (S_ltree 4) (S_lnodes 4))) (C := c_Ring_row) D sc_Ring_row rfl ⟨y.ok, by decide +kernel, ((lk1 (FnAt.mono (l_better y) (by decide)) lk0) : ∀ x j, List.lookup x _ = some j → (fun x j => FnAt (Wo P w K mg base) _ x ((Fx (S_same 5) (S_ltree 4) (S_lnodes 4)) j)) x j), fun x c j e => (lk0 : ∀ x (q : Nat × Nat), List.lookup x _ = some q → (fun x (q : Nat × Nat) => NwAt (Wo P w K mg base) _ x q.1 ((Fx (S_same 5) (S_ltree 4) (S_lnodes 4)) q.2)) x q) x (c, j) e, fun x c j e => ((lk1 (MtAt.mono (l_Ring_charge y) (by decide)) lk0) : ∀ x (q : Nat × Nat), List.lookup x _ = some q → (fun x (q : Nat × Nat) => MtAt (Wo P w K mg base) _ x q.1 ((Fx (S_same 5) (S_ltree 4) (S_lnodes 4)) q.2)) x q) x (c, j) e, (lk0 : ∀ x (i : Int), List.lookup x _ = some i → (fun x i => ∃ t, mg x = some (.int i t)) x i)⟩ t_Ring_row (d_Ring_row (Fx (S_same 5) (S_ltree 4) (S_lnodes 4)) rfl rfl))⟩
theorem l_Ring_rows (y : Hy K h mg) : MtAt (Wo P w K mg base) 4 "rows" 3 S_Ring_rows := by
  obtain ⟨fd, D⟩ := y.c.def_ 18 (d := D_Ring_rows) rfl
  exact ⟨by decide, _, fd, _, y.meth (x := "Ring") (m := "rows") (by decide +kernel), (D.bindsN fun _ _ _ _ _ _ us hl => match us, hl with | [_, _], _ => rfl), (def_ok (W := Wo P w K mg base) (F := (Fx (S_same 5) (S_ltree 4) (S_lnodes 4))) (C := c_Ring_rows) D sc_Ring_rows rfl ⟨y.ok, by decide +kernel, (lk0 : ∀ x j, List.lookup x _ = some j → (fun x j => FnAt (Wo P w K mg base) _ x ((Fx (S_same 5) (S_ltree 4) (S_lnodes 4)) j)) x j), fun x c j e => (lk0 : ∀ x (q : Nat × Nat), List.lookup x _ = some q → (fun x (q : Nat × Nat) => NwAt (Wo P w K mg base) _ x q.1 ((Fx (S_same 5) (S_ltree 4) (S_lnodes 4)) q.2)) x q) x (c, j) e, fun x c j e => ((lk1 (MtAt.mono (l_Ring_row y) (by decide)) lk0) : ∀ x (q : Nat × Nat), List.lookup x _ = some q → (fun x (q : Nat × Nat) => MtAt (Wo P w K mg base) _ x q.1 ((Fx (S_same 5) (S_ltree 4) (S_lnodes 4)) q.2)) x q) x (c, j) e, (lk0 : ∀ x (i : Int), List.lookup x _ = some i → (fun x i => ∃ t, mg x = some (.int i t)) x i)⟩ t_Ring_rows (d_Ring_rows (Fx (S_same 5) (S_ltree 4) (S_lnodes 4)) rfl))⟩
theorem l_Ring_closed (y : Hy K h mg) : MtAt (Wo P w K mg base) 3 "closed" 3 S_Ring_closed := by
  obtain ⟨fd, D⟩ := y.c.def_ 20 (d := D_Ring_closed) rfl
  exact ⟨by decide, _, fd, _, y.meth (x := "Ring") (m := "closed") (by decide +kernel), (D.bindsN fun _ _ _ _ _ _ us hl => match us, hl with | [_, _, _], _ => rfl), (def_ok (W := Wo P w K mg base) (F := (Fx (S_same 5) (S_ltree 4) (S_lnodes 4))) (C := c_Ring_closed) D sc_Ring_closed rfl ⟨y.ok, by decide +kernel, ((lk1 (FnAt.mono (l_better y) (by decide)) lk0) : ∀ x j, List.lookup x _ = some j → (fun x j => FnAt (Wo P w K mg base) _ x ((Fx (S_same 5) (S_ltree 4) (S_lnodes 4)) j)) x j), fun x c j e => (lk0 : ∀ x (q : Nat × Nat), List.lookup x _ = some q → (fun x (q : Nat × Nat) => NwAt (Wo P w K mg base) _ x q.1 ((Fx (S_same 5) (S_ltree 4) (S_lnodes 4)) q.2)) x q) x (c, j) e, fun x c j e => ((lk1 (MtAt.mono (l_Ring_charge y) (by decide)) lk0) : ∀ x (q : Nat × Nat), List.lookup x _ = some q → (fun x (q : Nat × Nat) => MtAt (Wo P w K mg base) _ x q.1 ((Fx (S_same 5) (S_ltree 4) (S_lnodes 4)) q.2)) x q) x (c, j) e, (lk0 : ∀ x (i : Int), List.lookup x _ = some i → (fun x i => ∃ t, mg x = some (.int i t)) x i)⟩ t_Ring_closed (d_Ring_closed (Fx (S_same 5) (S_ltree 4) (S_lnodes 4)) rfl rfl))⟩
theorem l_best_ring (y : Hy K h mg) : FnAt (Wo P w K mg base) 5 "best_ring" S_best_ring := by
  obtain ⟨fd, D⟩ := y.c.def_ 21 (d := D_best_ring) rfl
  exact fn_at (W := Wo P w K mg base) (y.glo (x := "best_ring") (by decide +kernel)) D.kp (D.bindsN fun _ _ _ _ _ _ us hl => match us, hl with | [_, _, _, _], _ => rfl) (def_ok (W := Wo P w K mg base) (F := (Fx (S_same 5) (S_ltree 4) (S_lnodes 4))) (C := c_best_ring) D sc_best_ring rfl ⟨y.ok, by decide +kernel, ((lk1 (FnAt.mono (l_better y) (by decide)) (lk1 (FnAt.mono (l_cost_of y) (by decide)) lk0)) : ∀ x j, List.lookup x _ = some j → (fun x j => FnAt (Wo P w K mg base) _ x ((Fx (S_same 5) (S_ltree 4) (S_lnodes 4)) j)) x j), fun x c j e => ((lk1 (NwAt.mono (l_Ring_init y) (by decide)) (lk1 (NwAt.mono (l_Found_init y) (by decide)) lk0)) : ∀ x (q : Nat × Nat), List.lookup x _ = some q → (fun x (q : Nat × Nat) => NwAt (Wo P w K mg base) _ x q.1 ((Fx (S_same 5) (S_ltree 4) (S_lnodes 4)) q.2)) x q) x (c, j) e, fun x c j e => ((lk1 (MtAt.mono (l_Ring_rows y) (by decide)) (lk1 (MtAt.mono (l_Ring_closed y) (by decide)) lk0)) : ∀ x (q : Nat × Nat), List.lookup x _ = some q → (fun x (q : Nat × Nat) => MtAt (Wo P w K mg base) _ x q.1 ((Fx (S_same 5) (S_ltree 4) (S_lnodes 4)) q.2)) x q) x (c, j) e, (lk0 : ∀ x (i : Int), List.lookup x _ = some i → (fun x i => ∃ t, mg x = some (.int i t)) x i)⟩ t_best_ring (d_best_ring (Fx (S_same 5) (S_ltree 4) (S_lnodes 4)) rfl rfl rfl rfl rfl rfl))
theorem l_law_pool (y : Hy K h mg) : FnAt (Wo P w K mg base) 1 "_law_pool" S_pool := by
  obtain ⟨fd, D⟩ := y.c.def_ 22 (d := D_law_pool) rfl
  exact fn_at (W := Wo P w K mg base) (y.glo (x := "_law_pool") (by decide +kernel)) D.kp (D.bindsN fun _ _ _ _ _ _ us hl => match us, hl with | [_, _], _ => rfl) (def_ok (W := Wo P w K mg base) (F := (Fx (S_same 5) (S_ltree 4) (S_lnodes 4))) (C := c_law_pool) D sc_law_pool rfl ⟨y.ok, by decide +kernel, (lk0 : ∀ x j, List.lookup x _ = some j → (fun x j => FnAt (Wo P w K mg base) _ x ((Fx (S_same 5) (S_ltree 4) (S_lnodes 4)) j)) x j), fun x c j e => (lk0 : ∀ x (q : Nat × Nat), List.lookup x _ = some q → (fun x (q : Nat × Nat) => NwAt (Wo P w K mg base) _ x q.1 ((Fx (S_same 5) (S_ltree 4) (S_lnodes 4)) q.2)) x q) x (c, j) e, fun x c j e => (lk0 : ∀ x (q : Nat × Nat), List.lookup x _ = some q → (fun x (q : Nat × Nat) => MtAt (Wo P w K mg base) _ x q.1 ((Fx (S_same 5) (S_ltree 4) (S_lnodes 4)) q.2)) x q) x (c, j) e, (lk0 : ∀ x (i : Int), List.lookup x _ = some i → (fun x i => ∃ t, mg x = some (.int i t)) x i)⟩ t_law_pool (d_pool (Fx (S_same 5) (S_ltree 4) (S_lnodes 4)) ))
theorem l_law_draw (y : Hy K h mg) : FnAt (Wo P w K mg base) 1 "_law_draw" S_draw := by
  obtain ⟨fd, D⟩ := y.c.def_ 23 (d := D_law_draw) rfl
  exact fn_at (W := Wo P w K mg base) (y.glo (x := "_law_draw") (by decide +kernel)) D.kp (D.bindsN fun _ _ _ _ _ _ us hl => match us, hl with | [_, _], _ => rfl) (def_ok (W := Wo P w K mg base) (F := (Fx (S_same 5) (S_ltree 4) (S_lnodes 4))) (C := c_law_draw) D sc_law_draw rfl ⟨y.ok, by decide +kernel, (lk0 : ∀ x j, List.lookup x _ = some j → (fun x j => FnAt (Wo P w K mg base) _ x ((Fx (S_same 5) (S_ltree 4) (S_lnodes 4)) j)) x j), fun x c j e => (lk0 : ∀ x (q : Nat × Nat), List.lookup x _ = some q → (fun x (q : Nat × Nat) => NwAt (Wo P w K mg base) _ x q.1 ((Fx (S_same 5) (S_ltree 4) (S_lnodes 4)) q.2)) x q) x (c, j) e, fun x c j e => (lk0 : ∀ x (q : Nat × Nat), List.lookup x _ = some q → (fun x (q : Nat × Nat) => MtAt (Wo P w K mg base) _ x q.1 ((Fx (S_same 5) (S_ltree 4) (S_lnodes 4)) q.2)) x q) x (c, j) e, (lk0 : ∀ x (i : Int), List.lookup x _ = some i → (fun x i => ∃ t, mg x = some (.int i t)) x i)⟩ t_law_draw (d_draw (Fx (S_same 5) (S_ltree 4) (S_lnodes 4)) ))
theorem f_law_same (y : Hy K h mg) : FnAt (Wo P w K mg base) 1 "_law_same" S_no := by
  obtain ⟨fd, D⟩ := y.c.def_ 24 (d := D_law_same) rfl
  exact fn_at (W := Wo P w K mg base) (y.glo (x := "_law_same") (by decide +kernel)) D.kp (D.bindsN fun _ _ _ _ _ _ us hl => match us, hl with | [_, _], _ => rfl) (fn_no (k := 0) (C := c_law_same) (W := Wo P w K mg base) D sc_law_same)
theorem l0_law_same (y : Hy K h mg) : FnAt (Wo P w K mg base) 2 "_law_same" (S_same 0) := by
  obtain ⟨fd, D⟩ := y.c.def_ 24 (d := D_law_same) rfl
  have sf : FnAt (Wo P w K mg base) 1 "_law_same" S_no := (f_law_same y).mono (by decide)
  exact fn_at (W := Wo P w K mg base) (y.glo (x := "_law_same") (by decide +kernel)) D.kp (D.bindsN fun _ _ _ _ _ _ us hl => match us, hl with | [_, _], _ => rfl) (def_ok (F := (Fx S_no S_no S_no)) (C := c_law_same) D sc_law_same rfl ⟨y.ok, by decide +kernel, ((lk1 sf lk0) : ∀ x j, List.lookup x _ = some j → (fun x j => FnAt (Wo P w K mg base) _ x ((Fx S_no S_no S_no) j)) x j), fun x c j e => (lk0 : ∀ x (q : Nat × Nat), List.lookup x _ = some q → (fun x (q : Nat × Nat) => NwAt (Wo P w K mg base) _ x q.1 ((Fx S_no S_no S_no) q.2)) x q) x (c, j) e, fun x c j e => (lk0 : ∀ x (q : Nat × Nat), List.lookup x _ = some q → (fun x (q : Nat × Nat) => MtAt (Wo P w K mg base) _ x q.1 ((Fx S_no S_no S_no) q.2)) x q) x (c, j) e, (lk0 : ∀ x (i : Int), List.lookup x _ = some i → (fun x i => ∃ t, mg x = some (.int i t)) x i)⟩ t_law_same (d_same (Fx S_no S_no S_no) 0 (.inl rfl)))
theorem lr_law_same (y : Hy K h mg) : ∀ b : Nat, b ≤ 5 → FnAt (Wo P w K mg base) (2 + b) "_law_same" (S_same b)
  | 0, _ => l0_law_same y
  | b + 1, lb => by
    have sf := lr_law_same y b (by omega)
    obtain ⟨fd, D⟩ := y.c.def_ 24 (d := D_law_same) rfl
    exact fn_at (W := Wo P w K mg base) (y.glo (x := "_law_same") (by decide +kernel)) D.kp (D.bindsN fun _ _ _ _ _ _ us hl => match us, hl with | [_, _], _ => rfl) (def_ok (k := 2 + b) (F := (Fx (S_same b) S_no S_no)) (C := c_law_same) D sc_law_same rfl ⟨y.ok, by decide +kernel, ((lk1 sf lk0) : ∀ x j, List.lookup x _ = some j → (fun x j => FnAt (Wo P w K mg base) _ x ((Fx (S_same b) S_no S_no) j)) x j), fun x c j e => (lk0 : ∀ x (q : Nat × Nat), List.lookup x _ = some q → (fun x (q : Nat × Nat) => NwAt (Wo P w K mg base) _ x q.1 ((Fx (S_same b) S_no S_no) q.2)) x q) x (c, j) e, fun x c j e => (lk0 : ∀ x (q : Nat × Nat), List.lookup x _ = some q → (fun x (q : Nat × Nat) => MtAt (Wo P w K mg base) _ x q.1 ((Fx (S_same b) S_no S_no) q.2)) x q) x (c, j) e, (lk0 : ∀ x (i : Int), List.lookup x _ = some i → (fun x i => ∃ t, mg x = some (.int i t)) x i)⟩ t_law_same (d_same (Fx (S_same b) S_no S_no) (b + 1) (.inr ⟨b, rfl, rfl⟩)))
theorem l_law_same (y : Hy K h mg) : FnAt (Wo P w K mg base) 7 "_law_same" (S_same 5) := lr_law_same y 5 (by decide)
theorem l_law_machine (y : Hy K h mg) : FnAt (Wo P w K mg base) 2 "_law_machine" S_lmachine := by
  obtain ⟨fd, D⟩ := y.c.def_ 25 (d := D_law_machine) rfl
  exact fn_at (W := Wo P w K mg base) (y.glo (x := "_law_machine") (by decide +kernel)) D.kp (D.bindsN fun _ _ _ _ _ _ us hl => match us, hl with | [_, _, _, _], _ => rfl) (def_ok (W := Wo P w K mg base) (F := (Fx (S_same 5) (S_ltree 4) (S_lnodes 4))) (C := c_law_machine) D sc_law_machine rfl ⟨y.ok, by decide +kernel, ((lk1 (FnAt.mono (l_law_draw y) (by decide)) lk0) : ∀ x j, List.lookup x _ = some j → (fun x j => FnAt (Wo P w K mg base) _ x ((Fx (S_same 5) (S_ltree 4) (S_lnodes 4)) j)) x j), fun x c j e => (lk0 : ∀ x (q : Nat × Nat), List.lookup x _ = some q → (fun x (q : Nat × Nat) => NwAt (Wo P w K mg base) _ x q.1 ((Fx (S_same 5) (S_ltree 4) (S_lnodes 4)) q.2)) x q) x (c, j) e, fun x c j e => (lk0 : ∀ x (q : Nat × Nat), List.lookup x _ = some q → (fun x (q : Nat × Nat) => MtAt (Wo P w K mg base) _ x q.1 ((Fx (S_same 5) (S_ltree 4) (S_lnodes 4)) q.2)) x q) x (c, j) e, (lk0 : ∀ x (i : Int), List.lookup x _ = some i → (fun x i => ∃ t, mg x = some (.int i t)) x i)⟩ t_law_machine (d_lmachine (Fx (S_same 5) (S_ltree 4) (S_lnodes 4)) rfl))
theorem f_law_tree (y : Hy K h mg) : FnAt (Wo P w K mg base) 1 "_law_tree" S_no := by
  obtain ⟨fd, D⟩ := y.c.def_ 26 (d := D_law_tree) rfl
  exact fn_at (W := Wo P w K mg base) (y.glo (x := "_law_tree") (by decide +kernel)) D.kp (D.bindsN fun _ _ _ _ _ _ us hl => match us, hl with | [_, _, _], _ => rfl) (fn_no (k := 0) (C := c_law_tree) (W := Wo P w K mg base) D sc_law_tree)
theorem l0_law_tree (y : Hy K h mg) : FnAt (Wo P w K mg base) 2 "_law_tree" (S_ltree 0) := by
  obtain ⟨fd, D⟩ := y.c.def_ 26 (d := D_law_tree) rfl
  have sf : FnAt (Wo P w K mg base) 1 "_law_tree" S_no := (f_law_tree y).mono (by decide)
  exact fn_at (W := Wo P w K mg base) (y.glo (x := "_law_tree") (by decide +kernel)) D.kp (D.bindsN fun _ _ _ _ _ _ us hl => match us, hl with | [_, _, _], _ => rfl) (def_ok (F := (Fx S_no S_no S_no)) (C := c_law_tree) D sc_law_tree rfl ⟨y.ok, by decide +kernel, ((lk1 (FnAt.mono (l_law_draw y) (by omega)) (lk1 sf lk0)) : ∀ x j, List.lookup x _ = some j → (fun x j => FnAt (Wo P w K mg base) _ x ((Fx S_no S_no S_no) j)) x j), fun x c j e => (lk0 : ∀ x (q : Nat × Nat), List.lookup x _ = some q → (fun x (q : Nat × Nat) => NwAt (Wo P w K mg base) _ x q.1 ((Fx S_no S_no S_no) q.2)) x q) x (c, j) e, fun x c j e => (lk0 : ∀ x (q : Nat × Nat), List.lookup x _ = some q → (fun x (q : Nat × Nat) => MtAt (Wo P w K mg base) _ x q.1 ((Fx S_no S_no S_no) q.2)) x q) x (c, j) e, (lk0 : ∀ x (i : Int), List.lookup x _ = some i → (fun x i => ∃ t, mg x = some (.int i t)) x i)⟩ t_law_tree (d_ltree (Fx S_no S_no S_no) 0 rfl (.inl rfl)))
theorem lr_law_tree (y : Hy K h mg) : ∀ b : Nat, b ≤ 4 → FnAt (Wo P w K mg base) (2 + b) "_law_tree" (S_ltree b)
  | 0, _ => l0_law_tree y
  | b + 1, lb => by
    have sf := lr_law_tree y b (by omega)
    obtain ⟨fd, D⟩ := y.c.def_ 26 (d := D_law_tree) rfl
    exact fn_at (W := Wo P w K mg base) (y.glo (x := "_law_tree") (by decide +kernel)) D.kp (D.bindsN fun _ _ _ _ _ _ us hl => match us, hl with | [_, _, _], _ => rfl) (def_ok (k := 2 + b) (F := (Fx S_no (S_ltree b) S_no)) (C := c_law_tree) D sc_law_tree rfl ⟨y.ok, by decide +kernel, ((lk1 (FnAt.mono (l_law_draw y) (by omega)) (lk1 sf lk0)) : ∀ x j, List.lookup x _ = some j → (fun x j => FnAt (Wo P w K mg base) _ x ((Fx S_no (S_ltree b) S_no) j)) x j), fun x c j e => (lk0 : ∀ x (q : Nat × Nat), List.lookup x _ = some q → (fun x (q : Nat × Nat) => NwAt (Wo P w K mg base) _ x q.1 ((Fx S_no (S_ltree b) S_no) q.2)) x q) x (c, j) e, fun x c j e => (lk0 : ∀ x (q : Nat × Nat), List.lookup x _ = some q → (fun x (q : Nat × Nat) => MtAt (Wo P w K mg base) _ x q.1 ((Fx S_no (S_ltree b) S_no) q.2)) x q) x (c, j) e, (lk0 : ∀ x (i : Int), List.lookup x _ = some i → (fun x i => ∃ t, mg x = some (.int i t)) x i)⟩ t_law_tree (d_ltree (Fx S_no (S_ltree b) S_no) (b + 1) rfl (.inr ⟨b, rfl, rfl⟩)))
theorem l_law_tree (y : Hy K h mg) : FnAt (Wo P w K mg base) 6 "_law_tree" (S_ltree 4) := lr_law_tree y 4 (by decide)
theorem f_law_nodes (y : Hy K h mg) : FnAt (Wo P w K mg base) 1 "_law_nodes" S_no := by
  obtain ⟨fd, D⟩ := y.c.def_ 27 (d := D_law_nodes) rfl
  exact fn_at (W := Wo P w K mg base) (y.glo (x := "_law_nodes") (by decide +kernel)) D.kp (D.bindsN fun _ _ _ _ _ _ us hl => match us, hl with | [_], _ => rfl) (fn_no (k := 0) (C := c_law_nodes) (W := Wo P w K mg base) D sc_law_nodes)
theorem l0_law_nodes (y : Hy K h mg) : FnAt (Wo P w K mg base) 2 "_law_nodes" (S_lnodes 0) := by
  obtain ⟨fd, D⟩ := y.c.def_ 27 (d := D_law_nodes) rfl
  have sf : FnAt (Wo P w K mg base) 1 "_law_nodes" S_no := (f_law_nodes y).mono (by decide)
  exact fn_at (W := Wo P w K mg base) (y.glo (x := "_law_nodes") (by decide +kernel)) D.kp (D.bindsN fun _ _ _ _ _ _ us hl => match us, hl with | [_], _ => rfl) (def_ok (F := (Fx S_no S_no S_no)) (C := c_law_nodes) D sc_law_nodes rfl ⟨y.ok, by decide +kernel, ((lk1 sf lk0) : ∀ x j, List.lookup x _ = some j → (fun x j => FnAt (Wo P w K mg base) _ x ((Fx S_no S_no S_no) j)) x j), fun x c j e => (lk0 : ∀ x (q : Nat × Nat), List.lookup x _ = some q → (fun x (q : Nat × Nat) => NwAt (Wo P w K mg base) _ x q.1 ((Fx S_no S_no S_no) q.2)) x q) x (c, j) e, fun x c j e => (lk0 : ∀ x (q : Nat × Nat), List.lookup x _ = some q → (fun x (q : Nat × Nat) => MtAt (Wo P w K mg base) _ x q.1 ((Fx S_no S_no S_no) q.2)) x q) x (c, j) e, (lk0 : ∀ x (i : Int), List.lookup x _ = some i → (fun x i => ∃ t, mg x = some (.int i t)) x i)⟩ t_law_nodes (d_lnodes (Fx S_no S_no S_no) 0 (.inl rfl) (by omega)))
theorem lr_law_nodes (y : Hy K h mg) : ∀ b : Nat, b ≤ 4 → FnAt (Wo P w K mg base) (2 + b) "_law_nodes" (S_lnodes b)
  | 0, _ => l0_law_nodes y
  | b + 1, lb => by
    have sf := lr_law_nodes y b (by omega)
    obtain ⟨fd, D⟩ := y.c.def_ 27 (d := D_law_nodes) rfl
    exact fn_at (W := Wo P w K mg base) (y.glo (x := "_law_nodes") (by decide +kernel)) D.kp (D.bindsN fun _ _ _ _ _ _ us hl => match us, hl with | [_], _ => rfl) (def_ok (k := 2 + b) (F := (Fx S_no S_no (S_lnodes b))) (C := c_law_nodes) D sc_law_nodes rfl ⟨y.ok, by decide +kernel, ((lk1 sf lk0) : ∀ x j, List.lookup x _ = some j → (fun x j => FnAt (Wo P w K mg base) _ x ((Fx S_no S_no (S_lnodes b)) j)) x j), fun x c j e => (lk0 : ∀ x (q : Nat × Nat), List.lookup x _ = some q → (fun x (q : Nat × Nat) => NwAt (Wo P w K mg base) _ x q.1 ((Fx S_no S_no (S_lnodes b)) q.2)) x q) x (c, j) e, fun x c j e => (lk0 : ∀ x (q : Nat × Nat), List.lookup x _ = some q → (fun x (q : Nat × Nat) => MtAt (Wo P w K mg base) _ x q.1 ((Fx S_no S_no (S_lnodes b)) q.2)) x q) x (c, j) e, (lk0 : ∀ x (i : Int), List.lookup x _ = some i → (fun x i => ∃ t, mg x = some (.int i t)) x i)⟩ t_law_nodes (d_lnodes (Fx S_no S_no (S_lnodes b)) (b + 1) (.inr ⟨b, rfl, rfl⟩) (by omega)))
theorem l_law_nodes (y : Hy K h mg) : FnAt (Wo P w K mg base) 6 "_law_nodes" (S_lnodes 4) := lr_law_nodes y 4 (by decide)
theorem l_law_row_tree (y : Hy K h mg) : FnAt (Wo P w K mg base) 1 "_law_row_tree" S_lrow_tree := by
  obtain ⟨fd, D⟩ := y.c.def_ 28 (d := D_law_row_tree) rfl
  exact fn_at (W := Wo P w K mg base) (y.glo (x := "_law_row_tree") (by decide +kernel)) D.kp (D.bindsN fun _ _ _ _ _ _ us hl => match us, hl with | [_], _ => rfl) (def_ok (W := Wo P w K mg base) (F := (Fx (S_same 5) (S_ltree 4) (S_lnodes 4))) (C := c_law_row_tree) D sc_law_row_tree rfl ⟨y.ok, by decide +kernel, (lk0 : ∀ x j, List.lookup x _ = some j → (fun x j => FnAt (Wo P w K mg base) _ x ((Fx (S_same 5) (S_ltree 4) (S_lnodes 4)) j)) x j), fun x c j e => (lk0 : ∀ x (q : Nat × Nat), List.lookup x _ = some q → (fun x (q : Nat × Nat) => NwAt (Wo P w K mg base) _ x q.1 ((Fx (S_same 5) (S_ltree 4) (S_lnodes 4)) q.2)) x q) x (c, j) e, fun x c j e => (lk0 : ∀ x (q : Nat × Nat), List.lookup x _ = some q → (fun x (q : Nat × Nat) => MtAt (Wo P w K mg base) _ x q.1 ((Fx (S_same 5) (S_ltree 4) (S_lnodes 4)) q.2)) x q) x (c, j) e, (lk0 : ∀ x (i : Int), List.lookup x _ = some i → (fun x i => ∃ t, mg x = some (.int i t)) x i)⟩ t_law_row_tree (d_lrow_tree (Fx (S_same 5) (S_ltree 4) (S_lnodes 4)) ))
theorem l_law_shape (y : Hy K h mg) : FnAt (Wo P w K mg base) 7 "_law_shape" S_lshape := by
  obtain ⟨fd, D⟩ := y.c.def_ 29 (d := D_law_shape) rfl
  exact fn_at (W := Wo P w K mg base) (y.glo (x := "_law_shape") (by decide +kernel)) D.kp (D.bindsN fun _ _ _ _ _ _ us hl => match us, hl with | [_, _, _], _ => rfl) (def_ok (W := Wo P w K mg base) (F := (Fx (S_same 5) (S_ltree 4) (S_lnodes 4))) (C := c_law_shape) D sc_law_shape rfl ⟨y.ok, by decide +kernel, ((lk1 (FnAt.mono (l_law_tree y) (by decide)) (lk1 (FnAt.mono (l_law_draw y) (by decide)) (lk1 (FnAt.mono (l_law_row_tree y) (by decide)) lk0))) : ∀ x j, List.lookup x _ = some j → (fun x j => FnAt (Wo P w K mg base) _ x ((Fx (S_same 5) (S_ltree 4) (S_lnodes 4)) j)) x j), fun x c j e => (lk0 : ∀ x (q : Nat × Nat), List.lookup x _ = some q → (fun x (q : Nat × Nat) => NwAt (Wo P w K mg base) _ x q.1 ((Fx (S_same 5) (S_ltree 4) (S_lnodes 4)) q.2)) x q) x (c, j) e, fun x c j e => (lk0 : ∀ x (q : Nat × Nat), List.lookup x _ = some q → (fun x (q : Nat × Nat) => MtAt (Wo P w K mg base) _ x q.1 ((Fx (S_same 5) (S_ltree 4) (S_lnodes 4)) q.2)) x q) x (c, j) e, (lk0 : ∀ x (i : Int), List.lookup x _ = some i → (fun x i => ∃ t, mg x = some (.int i t)) x i)⟩ t_law_shape (d_lshape (Fx (S_same 5) (S_ltree 4) (S_lnodes 4)) rfl rfl rfl))
theorem l_law_objects (y : Hy K h mg) : FnAt (Wo P w K mg base) 1 "_law_objects" S_lobjects := by
  obtain ⟨fd, D⟩ := y.c.def_ 30 (d := D_law_objects) rfl
  exact fn_at (W := Wo P w K mg base) (y.glo (x := "_law_objects") (by decide +kernel)) D.kp (D.bindsN fun _ _ _ _ _ _ us hl => match us, hl with | [_, _, _], _ => rfl) (def_ok (W := Wo P w K mg base) (F := (Fx (S_same 5) (S_ltree 4) (S_lnodes 4))) (C := c_law_objects) D sc_law_objects rfl ⟨y.ok, by decide +kernel, (lk0 : ∀ x j, List.lookup x _ = some j → (fun x j => FnAt (Wo P w K mg base) _ x ((Fx (S_same 5) (S_ltree 4) (S_lnodes 4)) j)) x j), fun x c j e => (lk0 : ∀ x (q : Nat × Nat), List.lookup x _ = some q → (fun x (q : Nat × Nat) => NwAt (Wo P w K mg base) _ x q.1 ((Fx (S_same 5) (S_ltree 4) (S_lnodes 4)) q.2)) x q) x (c, j) e, fun x c j e => (lk0 : ∀ x (q : Nat × Nat), List.lookup x _ = some q → (fun x (q : Nat × Nat) => MtAt (Wo P w K mg base) _ x q.1 ((Fx (S_same 5) (S_ltree 4) (S_lnodes 4)) q.2)) x q) x (c, j) e, (lk0 : ∀ x (i : Int), List.lookup x _ = some i → (fun x i => ∃ t, mg x = some (.int i t)) x i)⟩ t_law_objects (d_objects (Fx (S_same 5) (S_ltree 4) (S_lnodes 4)) ))
theorem l_law_lists (y : Hy K h mg) : FnAt (Wo P w K mg base) 1 "_law_lists" S_llists := by
  obtain ⟨fd, D⟩ := y.c.def_ 31 (d := D_law_lists) rfl
  exact fn_at (W := Wo P w K mg base) (y.glo (x := "_law_lists") (by decide +kernel)) D.kp (D.bindsN fun _ _ _ _ _ _ us hl => match us, hl with | [_, _], _ => rfl) (def_ok (W := Wo P w K mg base) (F := (Fx (S_same 5) (S_ltree 4) (S_lnodes 4))) (C := c_law_lists) D sc_law_lists rfl ⟨y.ok, by decide +kernel, (lk0 : ∀ x j, List.lookup x _ = some j → (fun x j => FnAt (Wo P w K mg base) _ x ((Fx (S_same 5) (S_ltree 4) (S_lnodes 4)) j)) x j), fun x c j e => (lk0 : ∀ x (q : Nat × Nat), List.lookup x _ = some q → (fun x (q : Nat × Nat) => NwAt (Wo P w K mg base) _ x q.1 ((Fx (S_same 5) (S_ltree 4) (S_lnodes 4)) q.2)) x q) x (c, j) e, fun x c j e => (lk0 : ∀ x (q : Nat × Nat), List.lookup x _ = some q → (fun x (q : Nat × Nat) => MtAt (Wo P w K mg base) _ x q.1 ((Fx (S_same 5) (S_ltree 4) (S_lnodes 4)) q.2)) x q) x (c, j) e, (lk0 : ∀ x (i : Int), List.lookup x _ = some i → (fun x i => ∃ t, mg x = some (.int i t)) x i)⟩ t_law_lists (d_lists (Fx (S_same 5) (S_ltree 4) (S_lnodes 4)) ))
theorem l_law_made (y : Hy K h mg) : FnAt (Wo P w K mg base) 3 "_law_made" S_lmade := by
  obtain ⟨fd, D⟩ := y.c.def_ 32 (d := D_law_made) rfl
  exact fn_at (W := Wo P w K mg base) (y.glo (x := "_law_made") (by decide +kernel)) D.kp (D.bindsN fun _ _ _ _ _ _ us hl => match us, hl with | [_], _ => rfl) (def_ok (W := Wo P w K mg base) (F := (Fx (S_same 5) (S_ltree 4) (S_lnodes 4))) (C := c_law_made) D sc_law_made rfl ⟨y.ok, by decide +kernel, (lk0 : ∀ x j, List.lookup x _ = some j → (fun x j => FnAt (Wo P w K mg base) _ x ((Fx (S_same 5) (S_ltree 4) (S_lnodes 4)) j)) x j), fun x c j e => ((lk1 (NwAt.mono (l_Machine_init y) (by decide)) lk0) : ∀ x (q : Nat × Nat), List.lookup x _ = some q → (fun x (q : Nat × Nat) => NwAt (Wo P w K mg base) _ x q.1 ((Fx (S_same 5) (S_ltree 4) (S_lnodes 4)) q.2)) x q) x (c, j) e, fun x c j e => (lk0 : ∀ x (q : Nat × Nat), List.lookup x _ = some q → (fun x (q : Nat × Nat) => MtAt (Wo P w K mg base) _ x q.1 ((Fx (S_same 5) (S_ltree 4) (S_lnodes 4)) q.2)) x q) x (c, j) e, (lk0 : ∀ x (i : Int), List.lookup x _ = some i → (fun x i => ∃ t, mg x = some (.int i t)) x i)⟩ t_law_made (d_lmade (Fx (S_same 5) (S_ltree 4) (S_lnodes 4)) rfl))
theorem l_law_prices (y : Hy K h mg) : FnAt (Wo P w K mg base) 2 "_law_prices" S_lprices := by
  obtain ⟨fd, D⟩ := y.c.def_ 33 (d := D_law_prices) rfl
  exact fn_at (W := Wo P w K mg base) (y.glo (x := "_law_prices") (by decide +kernel)) D.kp (D.bindsN fun _ _ _ _ _ _ us hl => match us, hl with | [_, _, _], _ => rfl) (def_ok (W := Wo P w K mg base) (F := (Fx (S_same 5) (S_ltree 4) (S_lnodes 4))) (C := c_law_prices) D sc_law_prices rfl ⟨y.ok, by decide +kernel, ((lk1 (FnAt.mono (l_law_draw y) (by decide)) lk0) : ∀ x j, List.lookup x _ = some j → (fun x j => FnAt (Wo P w K mg base) _ x ((Fx (S_same 5) (S_ltree 4) (S_lnodes 4)) j)) x j), fun x c j e => (lk0 : ∀ x (q : Nat × Nat), List.lookup x _ = some q → (fun x (q : Nat × Nat) => NwAt (Wo P w K mg base) _ x q.1 ((Fx (S_same 5) (S_ltree 4) (S_lnodes 4)) q.2)) x q) x (c, j) e, fun x c j e => (lk0 : ∀ x (q : Nat × Nat), List.lookup x _ = some q → (fun x (q : Nat × Nat) => MtAt (Wo P w K mg base) _ x q.1 ((Fx (S_same 5) (S_ltree 4) (S_lnodes 4)) q.2)) x q) x (c, j) e, (lk0 : ∀ x (i : Int), List.lookup x _ = some i → (fun x i => ∃ t, mg x = some (.int i t)) x i)⟩ t_law_prices (d_lprices (Fx (S_same 5) (S_ltree 4) (S_lnodes 4)) rfl))
theorem l_law_cost (y : Hy K h mg) : FnAt (Wo P w K mg base) 1 "_law_cost" S_lcost := by
  obtain ⟨fd, D⟩ := y.c.def_ 34 (d := D_law_cost) rfl
  exact fn_at (W := Wo P w K mg base) (y.glo (x := "_law_cost") (by decide +kernel)) D.kp (D.bindsN fun _ _ _ _ _ _ us hl => match us, hl with | [_, _, _, _], _ => rfl) (def_ok (W := Wo P w K mg base) (F := (Fx (S_same 5) (S_ltree 4) (S_lnodes 4))) (C := c_law_cost) D sc_law_cost rfl ⟨y.ok, by decide +kernel, (lk0 : ∀ x j, List.lookup x _ = some j → (fun x j => FnAt (Wo P w K mg base) _ x ((Fx (S_same 5) (S_ltree 4) (S_lnodes 4)) j)) x j), fun x c j e => (lk0 : ∀ x (q : Nat × Nat), List.lookup x _ = some q → (fun x (q : Nat × Nat) => NwAt (Wo P w K mg base) _ x q.1 ((Fx (S_same 5) (S_ltree 4) (S_lnodes 4)) q.2)) x q) x (c, j) e, fun x c j e => (lk0 : ∀ x (q : Nat × Nat), List.lookup x _ = some q → (fun x (q : Nat × Nat) => MtAt (Wo P w K mg base) _ x q.1 ((Fx (S_same 5) (S_ltree 4) (S_lnodes 4)) q.2)) x q) x (c, j) e, (lk0 : ∀ x (i : Int), List.lookup x _ = some i → (fun x i => ∃ t, mg x = some (.int i t)) x i)⟩ t_law_cost (d_cost (Fx (S_same 5) (S_ltree 4) (S_lnodes 4)) ))
theorem l_law_ring_objects (y : Hy K h mg) : FnAt (Wo P w K mg base) 1 "_law_ring_objects" S_lring_objects := by
  obtain ⟨fd, D⟩ := y.c.def_ 35 (d := D_law_ring_objects) rfl
  exact fn_at (W := Wo P w K mg base) (y.glo (x := "_law_ring_objects") (by decide +kernel)) D.kp (D.bindsN fun _ _ _ _ _ _ us hl => match us, hl with | [_, _, _], _ => rfl) (def_ok (W := Wo P w K mg base) (F := (Fx (S_same 5) (S_ltree 4) (S_lnodes 4))) (C := c_law_ring_objects) D sc_law_ring_objects rfl ⟨y.ok, by decide +kernel, (lk0 : ∀ x j, List.lookup x _ = some j → (fun x j => FnAt (Wo P w K mg base) _ x ((Fx (S_same 5) (S_ltree 4) (S_lnodes 4)) j)) x j), fun x c j e => (lk0 : ∀ x (q : Nat × Nat), List.lookup x _ = some q → (fun x (q : Nat × Nat) => NwAt (Wo P w K mg base) _ x q.1 ((Fx (S_same 5) (S_ltree 4) (S_lnodes 4)) q.2)) x q) x (c, j) e, fun x c j e => (lk0 : ∀ x (q : Nat × Nat), List.lookup x _ = some q → (fun x (q : Nat × Nat) => MtAt (Wo P w K mg base) _ x q.1 ((Fx (S_same 5) (S_ltree 4) (S_lnodes 4)) q.2)) x q) x (c, j) e, (lk0 : ∀ x (i : Int), List.lookup x _ = some i → (fun x i => ∃ t, mg x = some (.int i t)) x i)⟩ t_law_ring_objects (d_ring_objects (Fx (S_same 5) (S_ltree 4) (S_lnodes 4)) ))
theorem l_law_best (y : Hy K h mg) : FnAt (Wo P w K mg base) 1 "_law_best" S_lbest := by
  obtain ⟨fd, D⟩ := y.c.def_ 36 (d := D_law_best) rfl
  exact fn_at (W := Wo P w K mg base) (y.glo (x := "_law_best") (by decide +kernel)) D.kp (D.bindsN fun _ _ _ _ _ _ us hl => match us, hl with | [_, _], _ => rfl) (def_ok (W := Wo P w K mg base) (F := (Fx (S_same 5) (S_ltree 4) (S_lnodes 4))) (C := c_law_best) D sc_law_best rfl ⟨y.ok, by decide +kernel, (lk0 : ∀ x j, List.lookup x _ = some j → (fun x j => FnAt (Wo P w K mg base) _ x ((Fx (S_same 5) (S_ltree 4) (S_lnodes 4)) j)) x j), fun x c j e => (lk0 : ∀ x (q : Nat × Nat), List.lookup x _ = some q → (fun x (q : Nat × Nat) => NwAt (Wo P w K mg base) _ x q.1 ((Fx (S_same 5) (S_ltree 4) (S_lnodes 4)) q.2)) x q) x (c, j) e, fun x c j e => (lk0 : ∀ x (q : Nat × Nat), List.lookup x _ = some q → (fun x (q : Nat × Nat) => MtAt (Wo P w K mg base) _ x q.1 ((Fx (S_same 5) (S_ltree 4) (S_lnodes 4)) q.2)) x q) x (c, j) e, (lk0 : ∀ x (i : Int), List.lookup x _ = some i → (fun x i => ∃ t, mg x = some (.int i t)) x i)⟩ t_law_best (d_lbest (Fx (S_same 5) (S_ltree 4) (S_lnodes 4)) ))
theorem l_law_least (y : Hy K h mg) : FnAt (Wo P w K mg base) 1 "_law_least" S_lleast := by
  obtain ⟨fd, D⟩ := y.c.def_ 37 (d := D_law_least) rfl
  exact fn_at (W := Wo P w K mg base) (y.glo (x := "_law_least") (by decide +kernel)) D.kp (D.bindsN fun _ _ _ _ _ _ us hl => match us, hl with | [_], _ => rfl) (def_ok (W := Wo P w K mg base) (F := (Fx (S_same 5) (S_ltree 4) (S_lnodes 4))) (C := c_law_least) D sc_law_least rfl ⟨y.ok, by decide +kernel, (lk0 : ∀ x j, List.lookup x _ = some j → (fun x j => FnAt (Wo P w K mg base) _ x ((Fx (S_same 5) (S_ltree 4) (S_lnodes 4)) j)) x j), fun x c j e => (lk0 : ∀ x (q : Nat × Nat), List.lookup x _ = some q → (fun x (q : Nat × Nat) => NwAt (Wo P w K mg base) _ x q.1 ((Fx (S_same 5) (S_ltree 4) (S_lnodes 4)) q.2)) x q) x (c, j) e, fun x c j e => (lk0 : ∀ x (q : Nat × Nat), List.lookup x _ = some q → (fun x (q : Nat × Nat) => MtAt (Wo P w K mg base) _ x q.1 ((Fx (S_same 5) (S_ltree 4) (S_lnodes 4)) q.2)) x q) x (c, j) e, (lk0 : ∀ x (i : Int), List.lookup x _ = some i → (fun x i => ∃ t, mg x = some (.int i t)) x i)⟩ t_law_least (d_least (Fx (S_same 5) (S_ltree 4) (S_lnodes 4)) ))
theorem l_law_root_row (y : Hy K h mg) : FnAt (Wo P w K mg base) 2 "_law_root_row" S_lroot_row := by
  obtain ⟨fd, D⟩ := y.c.def_ 38 (d := D_law_root_row) rfl
  exact fn_at (W := Wo P w K mg base) (y.glo (x := "_law_root_row") (by decide +kernel)) D.kp (D.bindsN fun _ _ _ _ _ _ us hl => match us, hl with | [_, _, _, _, _, _], _ => rfl) (def_ok (W := Wo P w K mg base) (F := (Fx (S_same 5) (S_ltree 4) (S_lnodes 4))) (C := c_law_root_row) D sc_law_root_row rfl ⟨y.ok, by decide +kernel, ((lk1 (FnAt.mono (l_law_lists y) (by decide)) (lk1 (FnAt.mono (l_law_least y) (by decide)) lk0)) : ∀ x j, List.lookup x _ = some j → (fun x j => FnAt (Wo P w K mg base) _ x ((Fx (S_same 5) (S_ltree 4) (S_lnodes 4)) j)) x j), fun x c j e => (lk0 : ∀ x (q : Nat × Nat), List.lookup x _ = some q → (fun x (q : Nat × Nat) => NwAt (Wo P w K mg base) _ x q.1 ((Fx (S_same 5) (S_ltree 4) (S_lnodes 4)) q.2)) x q) x (c, j) e, fun x c j e => (lk0 : ∀ x (q : Nat × Nat), List.lookup x _ = some q → (fun x (q : Nat × Nat) => MtAt (Wo P w K mg base) _ x q.1 ((Fx (S_same 5) (S_ltree 4) (S_lnodes 4)) q.2)) x q) x (c, j) e, (lk0 : ∀ x (i : Int), List.lookup x _ = some i → (fun x i => ∃ t, mg x = some (.int i t)) x i)⟩ t_law_root_row (d_root_row (Fx (S_same 5) (S_ltree 4) (S_lnodes 4)) rfl rfl))
theorem l_law_numbers (y : Hy K h mg) : FnAt (Wo P w K mg base) 3 "_law_numbers" S_lnumbers := by
  obtain ⟨fd, D⟩ := y.c.def_ 39 (d := D_law_numbers) rfl
  exact fn_at (W := Wo P w K mg base) (y.glo (x := "_law_numbers") (by decide +kernel)) D.kp (D.bindsN fun _ _ _ _ _ _ us hl => match us, hl with | [_, _, _, _], _ => rfl) (def_ok (W := Wo P w K mg base) (F := (Fx (S_same 5) (S_ltree 4) (S_lnodes 4))) (C := c_law_numbers) D sc_law_numbers rfl ⟨y.ok, by decide +kernel, ((lk1 (FnAt.mono (l_law_root_row y) (by decide)) lk0) : ∀ x j, List.lookup x _ = some j → (fun x j => FnAt (Wo P w K mg base) _ x ((Fx (S_same 5) (S_ltree 4) (S_lnodes 4)) j)) x j), fun x c j e => (lk0 : ∀ x (q : Nat × Nat), List.lookup x _ = some q → (fun x (q : Nat × Nat) => NwAt (Wo P w K mg base) _ x q.1 ((Fx (S_same 5) (S_ltree 4) (S_lnodes 4)) q.2)) x q) x (c, j) e, fun x c j e => (lk0 : ∀ x (q : Nat × Nat), List.lookup x _ = some q → (fun x (q : Nat × Nat) => MtAt (Wo P w K mg base) _ x q.1 ((Fx (S_same 5) (S_ltree 4) (S_lnodes 4)) q.2)) x q) x (c, j) e, (lk0 : ∀ x (i : Int), List.lookup x _ = some i → (fun x i => ∃ t, mg x = some (.int i t)) x i)⟩ t_law_numbers (d_numbers (Fx (S_same 5) (S_ltree 4) (S_lnodes 4)) rfl))
theorem l_law_step (y : Hy K h mg) : FnAt (Wo P w K mg base) 2 "_law_step" S_lstep := by
  obtain ⟨fd, D⟩ := y.c.def_ 40 (d := D_law_step) rfl
  exact fn_at (W := Wo P w K mg base) (y.glo (x := "_law_step") (by decide +kernel)) D.kp (D.bindsN fun _ _ _ _ _ _ us hl => match us, hl with | [_, _, _, _, _], _ => rfl) (def_ok (W := Wo P w K mg base) (F := (Fx (S_same 5) (S_ltree 4) (S_lnodes 4))) (C := c_law_step) D sc_law_step rfl ⟨y.ok, by decide +kernel, ((lk1 (FnAt.mono (l_law_least y) (by decide)) lk0) : ∀ x j, List.lookup x _ = some j → (fun x j => FnAt (Wo P w K mg base) _ x ((Fx (S_same 5) (S_ltree 4) (S_lnodes 4)) j)) x j), fun x c j e => (lk0 : ∀ x (q : Nat × Nat), List.lookup x _ = some q → (fun x (q : Nat × Nat) => NwAt (Wo P w K mg base) _ x q.1 ((Fx (S_same 5) (S_ltree 4) (S_lnodes 4)) q.2)) x q) x (c, j) e, fun x c j e => (lk0 : ∀ x (q : Nat × Nat), List.lookup x _ = some q → (fun x (q : Nat × Nat) => MtAt (Wo P w K mg base) _ x q.1 ((Fx (S_same 5) (S_ltree 4) (S_lnodes 4)) q.2)) x q) x (c, j) e, (lk0 : ∀ x (i : Int), List.lookup x _ = some i → (fun x i => ∃ t, mg x = some (.int i t)) x i)⟩ t_law_step (d_step (Fx (S_same 5) (S_ltree 4) (S_lnodes 4)) rfl))
theorem l_law_ring_numbers (y : Hy K h mg) : FnAt (Wo P w K mg base) 3 "_law_ring_numbers" S_lring_numbers := by
  obtain ⟨fd, D⟩ := y.c.def_ 41 (d := D_law_ring_numbers) rfl
  exact fn_at (W := Wo P w K mg base) (y.glo (x := "_law_ring_numbers") (by decide +kernel)) D.kp (D.bindsN fun _ _ _ _ _ _ us hl => match us, hl with | [_, _, _, _], _ => rfl) (def_ok (W := Wo P w K mg base) (F := (Fx (S_same 5) (S_ltree 4) (S_lnodes 4))) (C := c_law_ring_numbers) D sc_law_ring_numbers rfl ⟨y.ok, by decide +kernel, ((lk1 (FnAt.mono (l_law_least y) (by decide)) (lk1 (FnAt.mono (l_law_step y) (by decide)) lk0)) : ∀ x j, List.lookup x _ = some j → (fun x j => FnAt (Wo P w K mg base) _ x ((Fx (S_same 5) (S_ltree 4) (S_lnodes 4)) j)) x j), fun x c j e => (lk0 : ∀ x (q : Nat × Nat), List.lookup x _ = some q → (fun x (q : Nat × Nat) => NwAt (Wo P w K mg base) _ x q.1 ((Fx (S_same 5) (S_ltree 4) (S_lnodes 4)) q.2)) x q) x (c, j) e, fun x c j e => (lk0 : ∀ x (q : Nat × Nat), List.lookup x _ = some q → (fun x (q : Nat × Nat) => MtAt (Wo P w K mg base) _ x q.1 ((Fx (S_same 5) (S_ltree 4) (S_lnodes 4)) q.2)) x q) x (c, j) e, (lk0 : ∀ x (i : Int), List.lookup x _ = some i → (fun x i => ∃ t, mg x = some (.int i t)) x i)⟩ t_law_ring_numbers (d_ring_numbers (Fx (S_same 5) (S_ltree 4) (S_lnodes 4)) rfl rfl))
theorem l_law_tree_due (y : Hy K h mg) : FnAt (Wo P w K mg base) 7 "_law_tree_due" S_ltree_due := by
  obtain ⟨fd, D⟩ := y.c.def_ 42 (d := D_law_tree_due) rfl
  exact fn_at (W := Wo P w K mg base) (y.glo (x := "_law_tree_due") (by decide +kernel)) D.kp (D.bindsN fun _ _ _ _ _ _ us hl => match us, hl with | [_, _, _, _, _], _ => rfl) (def_ok (W := Wo P w K mg base) (F := (Fx (S_same 5) (S_ltree 4) (S_lnodes 4))) (C := c_law_tree_due) D sc_law_tree_due rfl ⟨y.ok, by decide +kernel, ((lk1 (FnAt.mono (l_law_nodes y) (by decide)) (lk1 (FnAt.mono (l_law_lists y) (by decide)) (lk1 (FnAt.mono (l_law_best y) (by decide)) (lk1 (FnAt.mono (l_law_numbers y) (by decide)) (lk1 (FnAt.mono (l_law_objects y) (by decide)) (lk1 (FnAt.mono (l_law_cost y) (by decide)) lk0)))))) : ∀ x j, List.lookup x _ = some j → (fun x j => FnAt (Wo P w K mg base) _ x ((Fx (S_same 5) (S_ltree 4) (S_lnodes 4)) j)) x j), fun x c j e => (lk0 : ∀ x (q : Nat × Nat), List.lookup x _ = some q → (fun x (q : Nat × Nat) => NwAt (Wo P w K mg base) _ x q.1 ((Fx (S_same 5) (S_ltree 4) (S_lnodes 4)) q.2)) x q) x (c, j) e, fun x c j e => (lk0 : ∀ x (q : Nat × Nat), List.lookup x _ = some q → (fun x (q : Nat × Nat) => MtAt (Wo P w K mg base) _ x q.1 ((Fx (S_same 5) (S_ltree 4) (S_lnodes 4)) q.2)) x q) x (c, j) e, (lk0 : ∀ x (i : Int), List.lookup x _ = some i → (fun x i => ∃ t, mg x = some (.int i t)) x i)⟩ t_law_tree_due (d_tree_due (Fx (S_same 5) (S_ltree 4) (S_lnodes 4)) 4 (by decide) rfl rfl rfl rfl rfl rfl))
theorem l_law_tree_told (y : Hy K h mg) : FnAt (Wo P w K mg base) 5 "_law_tree_told" S_ltree_told := by
  obtain ⟨fd, D⟩ := y.c.def_ 43 (d := D_law_tree_told) rfl
  exact fn_at (W := Wo P w K mg base) (y.glo (x := "_law_tree_told") (by decide +kernel)) D.kp (D.bindsN fun _ _ _ _ _ _ us hl => match us, hl with | [_, _, _, _, _], _ => rfl) (def_ok (W := Wo P w K mg base) (F := (Fx (S_same 5) (S_ltree 4) (S_lnodes 4))) (C := c_law_tree_told) D sc_law_tree_told rfl ⟨y.ok, by decide +kernel, ((lk1 (FnAt.mono (l_best y) (by decide)) (lk1 (FnAt.mono (l_fewest_objections y) (by decide)) (lk1 (FnAt.mono (l_after_change y) (by decide)) (lk1 (FnAt.mono (l_ways y) (by decide)) (lk1 (FnAt.mono (l_wishes y) (by decide)) lk0))))) : ∀ x j, List.lookup x _ = some j → (fun x j => FnAt (Wo P w K mg base) _ x ((Fx (S_same 5) (S_ltree 4) (S_lnodes 4)) j)) x j), fun x c j e => (lk0 : ∀ x (q : Nat × Nat), List.lookup x _ = some q → (fun x (q : Nat × Nat) => NwAt (Wo P w K mg base) _ x q.1 ((Fx (S_same 5) (S_ltree 4) (S_lnodes 4)) q.2)) x q) x (c, j) e, fun x c j e => (lk0 : ∀ x (q : Nat × Nat), List.lookup x _ = some q → (fun x (q : Nat × Nat) => MtAt (Wo P w K mg base) _ x q.1 ((Fx (S_same 5) (S_ltree 4) (S_lnodes 4)) q.2)) x q) x (c, j) e, (lk0 : ∀ x (i : Int), List.lookup x _ = some i → (fun x i => ∃ t, mg x = some (.int i t)) x i)⟩ t_law_tree_told (d_tree_told (Fx (S_same 5) (S_ltree 4) (S_lnodes 4)) rfl rfl rfl rfl rfl))
theorem l_law_ring_due (y : Hy K h mg) : FnAt (Wo P w K mg base) 4 "_law_ring_due" S_lring_due := by
  obtain ⟨fd, D⟩ := y.c.def_ 44 (d := D_law_ring_due) rfl
  exact fn_at (W := Wo P w K mg base) (y.glo (x := "_law_ring_due") (by decide +kernel)) D.kp (D.bindsN fun _ _ _ _ _ _ us hl => match us, hl with | [_, _, _, _], _ => rfl) (def_ok (W := Wo P w K mg base) (F := (Fx (S_same 5) (S_ltree 4) (S_lnodes 4))) (C := c_law_ring_due) D sc_law_ring_due rfl ⟨y.ok, by decide +kernel, ((lk1 (FnAt.mono (l_law_lists y) (by decide)) (lk1 (FnAt.mono (l_law_best y) (by decide)) (lk1 (FnAt.mono (l_law_ring_objects y) (by decide)) (lk1 (FnAt.mono (l_law_cost y) (by decide)) (lk1 (FnAt.mono (l_law_ring_numbers y) (by decide)) lk0))))) : ∀ x j, List.lookup x _ = some j → (fun x j => FnAt (Wo P w K mg base) _ x ((Fx (S_same 5) (S_ltree 4) (S_lnodes 4)) j)) x j), fun x c j e => (lk0 : ∀ x (q : Nat × Nat), List.lookup x _ = some q → (fun x (q : Nat × Nat) => NwAt (Wo P w K mg base) _ x q.1 ((Fx (S_same 5) (S_ltree 4) (S_lnodes 4)) q.2)) x q) x (c, j) e, fun x c j e => (lk0 : ∀ x (q : Nat × Nat), List.lookup x _ = some q → (fun x (q : Nat × Nat) => MtAt (Wo P w K mg base) _ x q.1 ((Fx (S_same 5) (S_ltree 4) (S_lnodes 4)) q.2)) x q) x (c, j) e, (lk0 : ∀ x (i : Int), List.lookup x _ = some i → (fun x i => ∃ t, mg x = some (.int i t)) x i)⟩ t_law_ring_due (d_ring_due (Fx (S_same 5) (S_ltree 4) (S_lnodes 4)) rfl rfl rfl rfl rfl))
theorem l_law_ring_told (y : Hy K h mg) : FnAt (Wo P w K mg base) 6 "_law_ring_told" S_lring_told := by
  obtain ⟨fd, D⟩ := y.c.def_ 45 (d := D_law_ring_told) rfl
  exact fn_at (W := Wo P w K mg base) (y.glo (x := "_law_ring_told") (by decide +kernel)) D.kp (D.bindsN fun _ _ _ _ _ _ us hl => match us, hl with | [_, _, _, _], _ => rfl) (def_ok (W := Wo P w K mg base) (F := (Fx (S_same 5) (S_ltree 4) (S_lnodes 4))) (C := c_law_ring_told) D sc_law_ring_told rfl ⟨y.ok, by decide +kernel, ((lk1 (FnAt.mono (l_best_ring y) (by decide)) (lk1 (FnAt.mono (l_ring_wishes y) (by decide)) lk0)) : ∀ x j, List.lookup x _ = some j → (fun x j => FnAt (Wo P w K mg base) _ x ((Fx (S_same 5) (S_ltree 4) (S_lnodes 4)) j)) x j), fun x c j e => (lk0 : ∀ x (q : Nat × Nat), List.lookup x _ = some q → (fun x (q : Nat × Nat) => NwAt (Wo P w K mg base) _ x q.1 ((Fx (S_same 5) (S_ltree 4) (S_lnodes 4)) q.2)) x q) x (c, j) e, fun x c j e => (lk0 : ∀ x (q : Nat × Nat), List.lookup x _ = some q → (fun x (q : Nat × Nat) => MtAt (Wo P w K mg base) _ x q.1 ((Fx (S_same 5) (S_ltree 4) (S_lnodes 4)) q.2)) x q) x (c, j) e, (lk0 : ∀ x (i : Int), List.lookup x _ = some i → (fun x i => ∃ t, mg x = some (.int i t)) x i)⟩ t_law_ring_told (d_ring_told (Fx (S_same 5) (S_ltree 4) (S_lnodes 4)) rfl rfl))
theorem l_law_moved (y : Hy K h mg) : FnAt (Wo P w K mg base) 1 "_law_moved" S_lmoved := by
  obtain ⟨fd, D⟩ := y.c.def_ 46 (d := D_law_moved) rfl
  exact fn_at (W := Wo P w K mg base) (y.glo (x := "_law_moved") (by decide +kernel)) D.kp (D.bindsN fun _ _ _ _ _ _ us hl => match us, hl with | [_, _, _, _, _, _], _ => rfl) (def_ok (W := Wo P w K mg base) (F := (Fx (S_same 5) (S_ltree 4) (S_lnodes 4))) (C := c_law_moved) D sc_law_moved rfl ⟨y.ok, by decide +kernel, (lk0 : ∀ x j, List.lookup x _ = some j → (fun x j => FnAt (Wo P w K mg base) _ x ((Fx (S_same 5) (S_ltree 4) (S_lnodes 4)) j)) x j), fun x c j e => (lk0 : ∀ x (q : Nat × Nat), List.lookup x _ = some q → (fun x (q : Nat × Nat) => NwAt (Wo P w K mg base) _ x q.1 ((Fx (S_same 5) (S_ltree 4) (S_lnodes 4)) q.2)) x q) x (c, j) e, fun x c j e => (lk0 : ∀ x (q : Nat × Nat), List.lookup x _ = some q → (fun x (q : Nat × Nat) => MtAt (Wo P w K mg base) _ x q.1 ((Fx (S_same 5) (S_ltree 4) (S_lnodes 4)) q.2)) x q) x (c, j) e, (lk0 : ∀ x (i : Int), List.lookup x _ = some i → (fun x i => ∃ t, mg x = some (.int i t)) x i)⟩ t_law_moved (d_lmoved (Fx (S_same 5) (S_ltree 4) (S_lnodes 4)) ))
theorem law_at (y : Hy K h mg) : ∃ fd : FuncData, (∀ (s : Shared) (v : Value), BindsTo s fd ⟨[v], []⟩ [("_law_script", v)]) ∧ ∀ base : Heap, FnOk P w K mg base CX0 8 (He.ga K "law") fd ["_law_script"] (spF (Wo P w K mg base) S_law2) := by
  obtain ⟨fd, D⟩ := y.c.def_ 47 (d := D_law) rfl
  have b := FunD.bindsA (ps := ["_law_script"]) D fun _ _ _ _ _ _ us hl => match us, hl with | [_], _ => rfl
  exact ⟨fd, fun s v => b s [v] rfl, fun base => def_ok (W := Wo P w K mg base) (F := (Fx (S_same 5) (S_ltree 4) (S_lnodes 4))) (C := c_law) D sc_law rfl ⟨y.ok, by decide +kernel, ((lk1 (FnAt.mono (l_law_pool y) (by decide)) (lk1 (FnAt.mono (l_law_draw y) (by decide)) (lk1 (FnAt.mono (l_law_machine y) (by decide)) (lk1 (FnAt.mono (l_law_made y) (by decide)) (lk1 (FnAt.mono (l_law_shape y) (by decide)) (lk1 (FnAt.mono (l_law_nodes y) (by decide)) (lk1 (FnAt.mono (l_law_moved y) (by decide)) (lk1 (FnAt.mono (l_law_prices y) (by decide)) (lk1 (FnAt.mono (l_law_same y) (by decide)) (lk1 (FnAt.mono (l_law_tree_told y) (by decide)) (lk1 (FnAt.mono (l_law_tree_due y) (by decide)) (lk1 (FnAt.mono (l_law_ring_told y) (by decide)) (lk1 (FnAt.mono (l_law_ring_due y) (by decide)) lk0))))))))))))) : ∀ x j, List.lookup x _ = some j → (fun x j => FnAt (Wo P w K mg base) _ x ((Fx (S_same 5) (S_ltree 4) (S_lnodes 4)) j)) x j), fun x c j e => (lk0 : ∀ x (q : Nat × Nat), List.lookup x _ = some q → (fun x (q : Nat × Nat) => NwAt (Wo P w K mg base) _ x q.1 ((Fx (S_same 5) (S_ltree 4) (S_lnodes 4)) q.2)) x q) x (c, j) e, fun x c j e => (lk0 : ∀ x (q : Nat × Nat), List.lookup x _ = some q → (fun x (q : Nat × Nat) => MtAt (Wo P w K mg base) _ x q.1 ((Fx (S_same 5) (S_ltree 4) (S_lnodes 4)) q.2)) x q) x (c, j) e, (lk0 : ∀ x (i : Int), List.lookup x _ = some i → (fun x i => ∃ t, mg x = some (.int i t)) x i)⟩ t_law (d_law (Fx (S_same 5) (S_ltree 4) (S_lnodes 4)) all_math 4 (by decide) rfl rfl rfl rfl rfl rfl rfl rfl rfl rfl rfl rfl rfl)⟩
end
end Ob
/-! part Fin -/
namespace Ob
open PySem L2
def lo0 : List Str := ["ObjectError", "BadMachine", "nodes_of", "counted", "ways", "wishes", "ring_wishes", "Found", "better", "below_of", "charged", "Reckoner", "cost_of", "best", "fewest_objections", "after_change", "MOST_LETTERS", "MOST_LABELS", "MOST_CHILDREN", "Machine"]
def lo1 : List Str := ["Ring", "best_ring", "_law_pool", "_law_draw", "_law_same", "_law_machine", "_law_tree", "_law_nodes", "_law_row_tree", "_law_shape", "_law_objects", "_law_lists", "_law_made", "_law_prices", "_law_cost", "_law_ring_objects", "_law_best", "_law_least", "_law_root_row", "_law_numbers"]
def lo2 : List Str := ["_law_step", "_law_ring_numbers", "_law_tree_due", "_law_tree_told", "_law_ring_due", "_law_ring_told", "_law_moved"]
def loose : List Str := lo0 ++ lo1 ++ lo2
abbrev R : PySem.W.OpenRow := PySem.W.OpenLaw.row PySem.Challenge.rw_someobjects_k23_whole_machines_asked_in
abbrev hk : PySem.W.Hook := He.hookD 5 faAll fnAll
def ob (s : PySem.W.SharedT) : He.AlD := He.obsDG 5 faAll fnAll (HandSHeadRun.getT s)
theorem ob_eq (s : PySem.W.SharedT) : ob s = hk.obs s.abs := He.obsDG_eq (HandSHeadRun.getT_eq s)
theorem topRun (w : World) : HandSHeadRun.RunEq R (PySem.W.view R.prog [54]) hk ob 3000 loose w := by
  intro os
  kernel_rfl
/-- the law's promise, said of the heap -/
def spScr (K : PySem.W.Frag) : Sp := fun vs H Q _ => ∃ (a : Addr) (ns : List Int), vs = [.ref a] ∧ SqL K H a (ns.map V.int) ∧ ns.length ≤ 63 ∧ ∀ H', Q (.bl true) H'
theorem law_facts {P : Program} {w : World} {K : PySem.W.Frag} {h : Heap} {mg : Str → Option Value} {f : Addr} (X : K.In h) (G : h.Ns mainGlobals mg) (c : He.SaysD faAll fnAll K) (hf : mg "law" = some (.ref f)) :
    ∃ fd : FuncData, (∀ (s : Shared) (v : Value), BindsTo s fd ⟨[v], []⟩ [("_law_script", v)]) ∧ ∀ base : Heap, FnOk P w K mg base CX0 8 f fd ["_law_script"] (spScr K) := by
  have y : Hy K h mg := ⟨X, G, c⟩
  obtain ⟨fd, hb, hF⟩ := law_at (P := P) (w := w) y
  have e := hf.symm.trans (y.glo (x := "law") (by decide +kernel))
  cases e
  refine ⟨fd, hb, fun base => (hF base).imp fun vs H Q E z => ?_⟩
  obtain ⟨a, ns, rfl, hS, hn, q⟩ := z
  refine ⟨H, [.scr ns], [], fun d _ => d = .bl true, Same.refl H, .cons (.scr hS ?_) .nil, ⟨List.nodup_nil, fun p c m => by cases m⟩, ⟨ns, rfl, rfl⟩, fun v d u' G' H' _ _ D e => ?_⟩
  · rw [sizeLine_eq]
    omega
  · subst e
    cases D
    exact q H'
end Ob
open PySem PySem.W PySem.Calls PyProof.Rows
theorem PySem.Challenge.cw_someobjects_k23_whole_machines_asked_in_holds : PySem.Challenge.rw_someobjects_k23_whole_machines_asked_in.Holds := by
  w_on; o_law
  refine HandSHeadRun.head_any (r := Ob.R) (q := view Ob.R.prog [54]) (H := Ob.hk) (ob := Ob.ob) (M := 3000) (loose := Ob.loose) (d := HandSHeadRun.topDef Ob.R.prog 54) (kwd := []) Ob.ob_eq
    (by kernel_rfl) (fun s => by kernel_rfl) Ob.topRun (by kernel_rfl) (by kernel_rfl) (by kernel_rfl) (by rfl) (by first | assumption | decide +kernel) (by decide +kernel) ⟨rfl, rfl, rfl, rfl, rfl, by decide +kernel⟩ ?hw ?hc
  case hw => w_witness2
  case hc =>
    refine L2.walk_ofE (l := PySem.Challenge.rw_someobjects_k23_whole_machines_asked_in) (n := 63) (k := 8) (x := "_law_script") (CX := L2.CX0) rfl (by decide) (by kernel_rfl) ⟨rfl, by decide, by decide⟩ ?F (fun _ _ _ _ z => z)
    intro w mg fa h Y G hmg0
    obtain ⟨K, KX, c⟩ := Y
    have hmg : mg ("law" : PySem.Str) = some (.ref fa) := by
      have e : (HandSHeadRun.topDef Ob.R.prog 54).name = ("law" : PySem.Str) := by kernel_rfl
      rw [← e]
      exact hmg0
    obtain ⟨fd, hb, hF⟩ := Ob.law_facts (P := (PySem.Challenge.rw_someobjects_k23_whole_machines_asked_in).prog) (w := w) KX G c hmg
    exact ⟨K, fd, Ob.spScr K, KX, hb, fun H a ns hl _ hS => ⟨a, ns, rfl, hS, hl, fun _ => rfl⟩, fun base _ _ => hF base⟩
