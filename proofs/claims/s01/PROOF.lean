import PyProof.Rows.All
import Wide.All
import OpenK.AllK
import Wide.FinOn
import PyProof.EqAt
import PyProof.EqKinds
import PyProof.NeKinds
import PyProof.TupleCall
import Open.SpecLaws
import KE.OsGo
import PySem.Challenge.RW_entryhouse_s01_answers
import HandS.ForSpec
import HandS.TryMany
import HandS.Comp
import HandS.Iter
import HandS.Text
import HandS.ExcInit
import HandS.ExcField
import HandS.Zip
import HandS.Evl
import PyVbdbam
-- EhM1
set_option Elab.async false
set_option linter.all false
namespace Eh
open Vbdbam (Bytes)

/-! ### The mirror: the program's state and defs as plain Lean -/
structure MR where
  places : Int
  form : Int
  cap : Int
  each : Int
  many : Int
  fee : Int
  fine : Int
  answer : Int
  begin_ : Int
  back : List Int
structure MS where
  number : Int
  wanted : Int
  has : Int
  judges : Int
  paid : Int
  fees : Int
  given : Int
  fines : Int
  out : Int
structure MO where
  number : Int
  school : Int
  day : Int
structure M where
  rules : MR
  schools : List MS
  offers : List MO
  made : Int
  day : Int
  closed : Bool
  entries : Int

def MR.fresh : MR := ⟨16, 4, 4, 1, 2, 1000, 500, 3, 60, []⟩
def M.fresh : M := ⟨MR.fresh, [], [], 0, 0, false, 0⟩
def MS.zero : MS := ⟨0, 0, 0, 0, 0, 0, 0, 0, 0⟩
def MO.zero : MO := ⟨0, 0, 0⟩
def MR.rows (r : MR) : List (List Int) := [[r.places], [r.form], [r.cap], [r.each, r.many], [r.fee], [r.fine], [r.answer], [r.begin_], r.back]
def MR.put (r : MR) (k : Nat) (ns : List Int) : MR :=
  if k = 0 then { r with places := ns.getD 0 0 } else if k = 1 then { r with form := ns.getD 0 0 } else if k = 2 then { r with cap := ns.getD 0 0 }
  else if k = 3 then { r with each := ns.getD 0 0, many := ns.getD 1 0 } else if k = 4 then { r with fee := ns.getD 0 0 } else if k = 5 then { r with fine := ns.getD 0 0 }
  else if k = 6 then { r with answer := ns.getD 0 0 } else if k = 7 then { r with begin_ := ns.getD 0 0 } else { r with back := ns }
def MR.owed (r : MR) (t : Int) : Int := (r.each * t + r.many - 1) / r.many
def pctOf (ahead : Int) : List Int → Int
  | a :: b :: rest => if a ≤ ahead then b else pctOf ahead rest
  | _ => 0
def MR.percent (r : MR) (day : Int) : Int := pctOf (r.begin_ - day) r.back
def MR.givenBack (r : MR) (day : Int) : Int := (r.percent day * r.fee) / 100

def MS.account (s : MS) : Int := s.paid + s.given - s.fees - s.fines - s.out
def MS.money (s : MS) : List Int := [s.paid, s.fees, s.given, s.fines, s.out]

def M.find (m : M) (n : Int) : Option Nat := m.schools.findIdx? fun s => s.number == n
def M.sch (m : M) (i : Nat) : MS := m.schools.getD i MS.zero
def M.setS (m : M) (i : Nat) (f : MS → MS) : M := { m with schools := m.schools.set i (f (m.sch i)) }
def M.findO (m : M) (n : Int) : Option Nat := m.offers.findIdx? fun o => o.number == n
def M.off (m : M) (i : Nat) : MO := m.offers.getD i MO.zero
def M.standing (m : M) (n : Int) : Int := ((m.offers.filter fun o => o.school == n).length : Nat)
def M.loadS (m : M) (s : MS) : Int := s.has + m.standing s.number
def M.loads (m : M) : List Int := m.schools.map m.loadS
def M.taken (m : M) : Int := (m.schools.map MS.has).sum
def waitsM (cap : Int) (s : MS) (l : Int) : Bool := decide (l < s.wanted) && decide (l < cap)
def folStep (cap : Int) (ss : List MS) (loads : List Int) (f : Int) (i : Nat) : Int :=
  if (waitsM cap (ss.getD i MS.zero) (loads.getD i 0) && (decide (f < 0) || decide (loads.getD i 0 < loads.getD f.toNat 0))) = true then (i : Int) else f
def following (cap : Int) (ss : List MS) (loads : List Int) : Int := (List.range ss.length).foldl (folStep cap ss loads) (-1)
def bump (loads : List Int) (p : Nat) : List Int := loads.set p (loads.getD p 0 + 1)
def queueM (cap : Int) (ss : List MS) : Nat → List Int → List Int
  | 0, _ => []
  | n + 1, loads => if 0 ≤ following cap ss loads then (ss.getD (following cap ss loads).toNat MS.zero).number :: queueM cap ss n (bump loads (following cap ss loads).toNat) else []
/-- the queue's loop comes to its end within so many turns -/
def queueEnds (cap : Int) (ss : List MS) : Nat → List Int → Prop
  | 0, loads => following cap ss loads < 0
  | n + 1, loads => 0 ≤ following cap ss loads → queueEnds cap ss n (bump loads (following cap ss loads).toNat)
def M.offerTo (m : M) (i : Nat) : M := { m with offers := m.offers ++ [⟨m.made, (m.sch i).number, m.day⟩], made := m.made + 1 }
def makeM : Nat → M → List Int → M
  | 0, m, _ => m
  | n + 1, m, loads => if 0 ≤ following m.rules.cap m.schools loads ∧ loads.sum < m.rules.places then makeM n (m.offerTo (following m.rules.cap m.schools loads).toNat) (bump loads (following m.rules.cap m.schools loads).toNat) else m
def M.makeOffers (m : M) : M := makeM m.rules.places.toNat m m.loads
def lapseStep (answer day : Int) (x : List MS × List MO) (o : MO) : List MS × List MO :=
  if o.day + answer < day then (match x.1.findIdx? fun s => s.number == o.school with
    | some i => (x.1.set i { x.1.getD i MS.zero with wanted := (x.1.getD i MS.zero).wanted - 1 }, x.2)
    | none => x) else (x.1, x.2 ++ [o])
def M.lapse (m : M) : M :=
  let x := m.offers.foldl (lapseStep m.rules.answer m.day) (m.schools, [])
  { m with schools := x.1, offers := x.2 }
def M.passNight (m : M) : M :=
  let u := M.lapse { m with day := m.day + 1 }
  if u.closed = true then u else u.makeOffers
def nightsM : Nat → M → M
  | 0, m => m
  | n + 1, m => (nightsM n m).passNight
def M.takeAway (m : M) (n : Int) : M := { m with offers := m.offers.filter fun o => !(o.number == n) }
def MR.missing (r : MR) (s : MS) : Int := if r.owed s.has - s.judges > 0 then r.owed s.has - s.judges else 0
def MR.fined (r : MR) (s : MS) : Int := r.missing s * r.fine
def MR.charge (r : MR) (s : MS) : MS := if r.fined s > 0 then { s with fines := s.fines + r.fined s } else s
def M.closeAll (m : M) : M := { m with closed := true, offers := [], schools := m.schools.map m.rules.charge, entries := m.entries + ((m.schools.filter fun s => decide (m.rules.fined s > 0)).length : Nat) }

/-! the calls -/
abbrev Re := Except Int (M × List Int)
def onS (m : M) (n : Int) (f : Nat → MS → Re) : Re := match m.find n with
  | none => .error (-5)
  | some i => f i (m.sch i)
def onO (m : M) (n : Int) (f : MO → Re) : Re := match m.findO n with
  | none => .error (-5)
  | some i => f (m.off i)
def refuse (b : Bool) (e : Int) (k : Re) : Re := if b = true then .error e else k
def outside (lo hi n : Int) : Bool := !(decide (lo ≤ n) && decide (n ≤ hi))
def enterM (m : M) (n w j : Int) : Re :=
  refuse (outside 1 999 n || outside 1 20 w || outside 0 99 j) (-1) <| refuse m.closed (-4) <| refuse (m.find n).isSome (-3) <| refuse (decide (30 ≤ (m.schools.length : Int))) (-9) <|
  .ok ({ m with schools := m.schools ++ [⟨n, w, 0, j, 0, 0, 0, 0, 0⟩] }, [(m.schools.length : Int)])
def wantM (m : M) (n w : Int) : Re := onS m n fun i s => refuse (outside 0 20 w) (-1) <| refuse m.closed (-4) <| refuse (decide (w < m.loadS s)) (-6) <|
  .ok (m.setS i fun s => { s with wanted := w }, [w - m.loadS s])
def bringM (m : M) (n j : Int) : Re := onS m n fun i s => refuse (outside 0 99 j) (-1) <| refuse m.closed (-4) <|
  .ok (m.setS i fun s => { s with judges := j }, [m.rules.owed s.has])
def acceptM (m : M) (n : Int) : Re := onO m n fun o => refuse m.closed (-4) <| refuse (decide (m.entries + 1 > 400)) (-9) <| onS m o.school fun i s =>
  .ok ({ (m.takeAway o.number).setS i fun s => { s with has := s.has + 1, fees := s.fees + m.rules.fee } with entries := m.entries + 1 }, [s.has + 1, s.number])
def declineM (m : M) (n : Int) : Re := onO m n fun o => refuse m.closed (-4) <| onS m o.school fun i s =>
  .ok ((m.takeAway o.number).setS i fun s => { s with wanted := s.wanted - 1 }, [s.wanted - 1, s.number])
def dropM (m : M) (n k : Int) : Re := onS m n fun i s => refuse (outside 1 60 k) (-1) <| refuse m.closed (-4) <| refuse (decide (s.has < k)) (-6) <| refuse (decide (m.entries + 1 > 400)) (-9) <|
  .ok ({ m.setS i fun s => { s with has := s.has - k, wanted := s.wanted - k, given := s.given + k * m.rules.givenBack m.day } with entries := m.entries + 1 }, [k * m.rules.givenBack m.day, m.rules.percent m.day])
def transferM (m : M) (a b : Int) : Re := onS m a fun i s => onS m b fun j t => refuse (decide (a = b)) (-1) <| refuse m.closed (-4) <| refuse (decide (s.has = 0)) (-6) <|
  refuse (!waitsM m.rules.cap t (m.loadS t)) (-7) <| refuse (decide (m.entries + 2 > 400)) (-9) <|
  .ok ({ (m.setS i fun s => { s with has := s.has - 1, wanted := s.wanted - 1, given := s.given + m.rules.fee }).setS j fun s => { s with has := s.has + 1, fees := s.fees + m.rules.fee } with entries := m.entries + 2 }, [s.has - 1])
def payM (m : M) (n k : Int) : Re := onS m n fun i s => refuse (outside 1 1000000 k) (-1) <| refuse (decide (m.entries + 1 > 400)) (-9) <|
  .ok ({ m.setS i fun s => { s with paid := s.paid + k } with entries := m.entries + 1 }, [MS.account { s with paid := s.paid + k }])
def payoutM (m : M) (n : Int) : Re := onS m n fun i s => refuse (decide (s.account ≤ 0)) (-6) <| refuse (decide (m.entries + 1 > 400)) (-9) <|
  .ok ({ m.setS i fun s' => { s' with out := s'.out + s.account } with entries := m.entries + 1 }, [s.account])
def nightM (m : M) (n : Int) : Re := refuse (outside 1 30 n) (-1) <| refuse (decide (m.day + n > 1000)) (-9) <|
  .ok (nightsM n.toNat m, (nightsM n.toNat m).day :: ((nightsM n.toNat m).offers.filter fun o => decide (m.made ≤ o.number)).flatMap fun o => [o.number, o.school, o.day])
def withRows (v : Int) (rows : List (List Int)) : List Int := if rows.length = 1 then v :: rows.getD 0 [] else v :: rows.flatMap fun r => (r.length : Int) :: r
def closeM (m : M) : Re := refuse m.closed (-4) <| refuse (decide (m.day < m.rules.begin_)) (-6) <| refuse (decide (m.entries + (m.schools.length : Int) > 400)) (-9) <|
  .ok (m.closeAll, withRows m.closeAll.taken [[(0 - m.closeAll.taken) % m.rules.form], m.closeAll.schools.flatMap fun s => [s.number, s.has, m.rules.missing s]])
def schoolM (m : M) (n : Int) : Re := onS m n fun _ s => .ok (m, [s.has, s.wanted, m.standing s.number, s.judges, m.rules.owed s.has])
def accountM (m : M) (n : Int) : Re := onS m n fun _ s => .ok (m, s.account :: s.money)
def offersM (m : M) : List Int := withRows (m.offers.length : Int) (m.offers.map fun o => [o.number, o.school, o.day, o.day + m.rules.answer])
def queueOf (m : M) : List Int := queueM m.rules.cap m.schools 300 m.loads
def moneyM (m : M) : List Int := (m.schools.map MS.account).sum :: (List.range 5).map fun k => (m.schools.map fun s => s.money.getD k 0).sum
def countsM (m : M) : List Int := [m.day, (m.schools.length : Int), m.taken, (m.offers.length : Int), m.made, if m.closed = true then 1 else 0, m.rules.percent m.day, m.entries]

/-! rules read of a text, shown -/
def kindAt (k : Nat) : Bytes := Vbdbam.KINDS.getD k []
def kindsOf (w : Bytes) : List Nat := (List.range 9).filter fun k => decide (w = kindAt k)
def numM (w : Bytes) : Int := if w.length > 4 ∨ w.all Vbdbam.isDigit = false then -1 else if w.headD 0 = 48 ∧ w.length > 1 then -1 else (Vbdbam.number w : Int)
def boundsM (k : Nat) : List (Int × Int) := if k = 0 then [(2, 60)] else if k = 1 then [(2, 4)] else if k = 2 then [(1, 9)] else if k = 3 then [(0, 9), (1, 9)] else if k = 6 then [(1, 30)] else if k = 7 then [(1, 200)] else [(0, 9999)]
def pairAt (ns : List Int) (i : Nat) : Bool :=
  (decide (0 ≤ ns.getD i 0) && decide (ns.getD i 0 ≤ if i % 2 = 0 then 200 else 100)) && !(decide (1 < i) && decide (ns.getD i 0 > ns.getD (i - 2) 0 - if i % 2 = 0 then 1 else 0))
def pairsM (ns : List Int) : Bool := !(decide (ns.length % 2 = 1) || decide (12 < ns.length)) && (List.range ns.length).all (pairAt ns)
def rightM (k : Nat) (ns : List Int) : Bool :=
  if k = 8 then pairsM ns else decide (ns.length = (boundsM k).length) && ((ns.zip (boundsM k)).all (fun p => decide (p.2.1 ≤ p.1) && decide (p.1 ≤ p.2.2)) && (decide (k ≠ 1) || decide (ns.getD 0 0 ≠ 3)))
def rowM (r : MR) (told : List Nat) (words : List Bytes) : Except Int (MR × List Nat) := match kindsOf (words.headD []) with
  | [] => .error 1
  | k :: _ => if told.contains k = true then .error 2 else if rightM k (words.tail.map numM) = false then .error 3 else .ok (r.put k (words.tail.map numM), told ++ [k])
def linesM : Nat → MR → List Nat → List Bytes → Except (Int × Int) MR
  | _, r, _, [] => .ok r
  | n, r, told, l :: rest => if Vbdbam.words l = [] then linesM (n + 1) r told rest else match rowM r told (Vbdbam.words l) with
    | .error e => .error (e, (n : Int))
    | .ok x => linesM (n + 1) x.1 x.2 rest
def rulesM (t : Bytes) : Except (Int × Int) MR := linesM 1 MR.fresh [] (Vbdbam.cut 10 t)
def shownRow (k : Nat) (ns : List Int) : List Int := (Vbdbam.spaced (kindAt k :: ns.map fun n => Vbdbam.text (toString n))).map fun (n : Nat) => (n : Int)
def shownM (r : MR) : List Int := ((Vbdbam.joined [10] (r.rows.zipIdx.map fun x => Vbdbam.spaced (kindAt x.2 :: x.1.map fun n => Vbdbam.text (toString n)))).map fun (n : Nat) => (n : Int))
def okText (row : List Int) : Bool := !(decide ((row.length : Int) > 1000) || !(row.all fun b => decide (0 ≤ b) && decide (b ≤ 255)))
def putRulesM (m : M) (row : List Int) : Re := refuse (!okText row) (-1) <| refuse (!m.schools.isEmpty || (!decide (m.day = 0) || m.closed)) (-4) <|
  match rulesM (row.map Int.toNat) with
  | .error e => .ok (m, [1, e.1, e.2])
  | .ok r => .ok ({ m with rules := r }, 0 :: r.rows.dropLast.flatten)

/-! all calls; numbers, row: as the reader hands them -/
def firstM (m : M) (c : Int) (ns : List Int) (row : List Int) : Re :=
  if c = 0 then .ok (M.fresh, [0]) else if c = 1 then putRulesM m row else if c = 2 then .ok (m, ((shownM m.rules).length : Int) :: shownM m.rules)
  else if c = 3 then enterM m (ns.getD 0 0) (ns.getD 1 0) (ns.getD 2 0) else if c = 4 then wantM m (ns.getD 0 0) (ns.getD 1 0) else if c = 5 then bringM m (ns.getD 0 0) (ns.getD 1 0)
  else if c = 6 then acceptM m (ns.getD 0 0) else if c = 7 then declineM m (ns.getD 0 0) else if c = 8 then dropM m (ns.getD 0 0) (ns.getD 1 0) else transferM m (ns.getD 0 0) (ns.getD 1 0)
def callM (m : M) (c : Int) (ns : List Int) (row : List Int) : Re :=
  if c ≤ 9 then firstM m c ns row else if c = 10 then payM m (ns.getD 0 0) (ns.getD 1 0) else if c = 11 then payoutM m (ns.getD 0 0) else if c = 12 then nightM m (ns.getD 0 0) else if c = 13 then closeM m
  else if c = 14 then schoolM m (ns.getD 0 0) else if c = 15 then accountM m (ns.getD 0 0) else if c = 16 then .ok (m, offersM m) else if c = 17 then .ok (m, ((queueOf m).length : Int) :: queueOf m)
  else if c = 18 then .ok (m, moneyM m) else .ok (m, countsM m)
def answerM (m : M) (c : Int) (ns : List Int) (row : List Int) : M × List Int := match callM m c ns row with
  | .error e => (m, [e])
  | .ok x => x
end Eh

-- EhM2
set_option Elab.async false
set_option linter.all false
namespace Eh
open Vbdbam (Bytes schoolAt setSchool offersTo load used waits nextSchool offerTo offersMade gone lapsed balance sumOf owed percent swings missing finesOf queueFrom idAt placeOf total)
abbrev SS := Vbdbam.State

/-! ### the specification's state in the mirror's words -/
def schM (s : SS) (i : Nat) : MS := ⟨(schoolAt s i).id, (schoolAt s i).wanted, (schoolAt s i).has_, (schoolAt s i).judges, sumOf s i 0, sumOf s i 1, sumOf s i 2, sumOf s i 3, sumOf s i 4⟩
def offM (s : SS) (o : Vbdbam.Offer) : MO := ⟨o.number, idAt s o.school, o.day⟩
def flatB (l : List (Nat × Nat)) : List Int := l.flatMap fun p => [(p.1 : Int), (p.2 : Int)]
def mirR (v : Vbdbam.Rules) : MR := ⟨v.places, v.form, v.cap, v.judges, v.per, v.fee, v.fine, v.answer, v.start, flatB v.back⟩
def schs (s : SS) : List MS := (List.range s.schools.length).map (schM s)
def mir (s : SS) : M := ⟨mirR s.rules, schs s, s.offers.map (offM s), (s.next : Nat), (s.day : Nat), s.closed, (s.money.length : Nat)⟩

structure RB (v : Vbdbam.Rules) : Prop where
  p1 : 2 ≤ v.places
  p2 : v.places ≤ 60
  f : v.form = 2 ∨ v.form = 4
  c1 : 1 ≤ v.cap
  c2 : v.cap ≤ 9
  j : v.judges ≤ 9
  per1 : 1 ≤ v.per
  per2 : v.per ≤ 9
  fee : v.fee ≤ 9999
  fine : v.fine ≤ 9999
  a1 : 1 ≤ v.answer
  a2 : v.answer ≤ 30
  s1 : 1 ≤ v.start
  s2 : v.start ≤ 200
  bl : v.back.length ≤ 6
  b : ∀ p ∈ v.back, p.1 ≤ 200 ∧ p.2 ≤ 100
structure SInv (s : SS) : Prop where
  rb : RB s.rules
  ids : (s.schools.map fun x => x.id).Nodup
  few : s.schools.length ≤ 30
  fit : ∀ i, i < s.schools.length → load s i ≤ (schoolAt s i).wanted
  small : ∀ i, i < s.schools.length → (schoolAt s i).wanted ≤ 20
  offS : ∀ o ∈ s.offers, o.school < s.schools.length
  offN : s.offers.Pairwise fun a b => a.number < b.number
  offL : ∀ o ∈ s.offers, o.number < s.next
  room : used s ≤ s.rules.places
  mon : ∀ e ∈ s.money, e.school < s.schools.length ∧ e.kind < 5

/-! ### lists -/
theorem schoolAt_get (s : SS) (i : Nat) (h : i < s.schools.length) : s.schools[i]? = some (schoolAt s i) := by
  unfold schoolAt
  rw [List.getElem?_eq_getElem h]
  rfl
theorem schools_eq (s : SS) : s.schools = (List.range s.schools.length).map (schoolAt s) := by
  apply List.ext_getElem?
  intro i
  by_cases h : i < s.schools.length
  · rw [schoolAt_get s i h, List.getElem?_map, List.getElem?_range h]
    rfl
  · rw [List.getElem?_eq_none (by omega), List.getElem?_eq_none (by simp; omega)]
theorem idAt_get (s : SS) (i : Nat) (h : i < s.schools.length) : (s.schools.map fun x => x.id)[i]? = some (idAt s i) := by
  rw [List.getElem?_map, schoolAt_get s i h]
  rfl
theorem SInv.id_inj {s : SS} (I : SInv s) {i j : Nat} (hi : i < s.schools.length) (hj : j < s.schools.length) (e : idAt s i = idAt s j) : i = j := by
  have a := idAt_get s i hi
  have b := idAt_get s j hj
  rw [← e] at b
  obtain ⟨h1, e1⟩ := List.getElem?_eq_some_iff.mp a
  obtain ⟨h2, e2⟩ := List.getElem?_eq_some_iff.mp b
  exact (List.getElem_inj I.ids).mp (e1.trans e2.symm)
theorem schs_len (s : SS) : (schs s).length = s.schools.length := by unfold schs; simp
theorem schs_get (s : SS) (i : Nat) (h : i < s.schools.length) : (schs s)[i]? = some (schM s i) := by
  unfold schs
  rw [List.getElem?_map, List.getElem?_range h]
  rfl
theorem mir_sch (s : SS) (i : Nat) (h : i < s.schools.length) : (mir s).sch i = schM s i := by
  show (schs s).getD i MS.zero = _
  rw [List.getD_eq_getElem?_getD, schs_get s i h]
  rfl
theorem schs_getD (s : SS) (i : Nat) (h : i < s.schools.length) : (schs s).getD i MS.zero = schM s i := mir_sch s i h
theorem int_beq (a b : Nat) : ((a : Int) == (b : Int)) = (a == b) := by
  by_cases h : a = b
  · subst h; simp
  · have h2 : ¬ ((a : Int) = (b : Int)) := by omega
    rw [beq_eq_false_iff_ne.mpr h, beq_eq_false_iff_ne.mpr h2]
theorem mir_find (s : SS) (n : Int) : (mir s).find n = placeOf s n := by
  show (schs s).findIdx? (fun x => x.number == n) = s.schools.findIdx? _
  have e := schools_eq s
  rw [show s.schools.findIdx? (fun x => (x.id : Int) == n) = ((List.range s.schools.length).map (schoolAt s)).findIdx? (fun x => (x.id : Int) == n) from congrArg _ e]
  unfold schs
  rw [List.findIdx?_map, List.findIdx?_map]
  rfl
theorem placeOf_lt {s : SS} {n : Int} {i : Nat} (h : placeOf s n = some i) : i < s.schools.length ∧ ((schoolAt s i).id : Int) = n := by
  unfold placeOf at h
  obtain ⟨h1, h2, _⟩ := List.findIdx?_eq_some_iff_getElem.mp h
  refine ⟨h1, ?_⟩
  have e := schoolAt_get s i h1
  rw [List.getElem?_eq_getElem h1] at e
  rw [← Option.some.inj e]
  simpa using h2
theorem placeOf_id {s : SS} (I : SInv s) {i : Nat} (h : i < s.schools.length) : placeOf s (idAt s i : Nat) = some i := by
  unfold placeOf
  rw [List.findIdx?_eq_some_iff_getElem]
  have e := schoolAt_get s i h
  rw [List.getElem?_eq_getElem h] at e
  refine ⟨h, ?_, ?_⟩
  · rw [Option.some.inj e]
    simp [idAt]
  · intro j hj
    have hj' : j < s.schools.length := by omega
    have e' := schoolAt_get s j hj'
    rw [List.getElem?_eq_getElem hj'] at e'
    rw [Option.some.inj e']
    intro q
    have q' : idAt s j = idAt s i := by
      have q2 : ((schoolAt s j).id : Int) = ((schoolAt s i).id : Int) := by simpa [idAt] using q
      exact Int.ofNat.inj q2
    exact absurd (I.id_inj hj' h q') (by omega)

/-! ### a changed school -/
theorem setSchool_len (s : SS) (i : Nat) (f : Vbdbam.School → Vbdbam.School) : (setSchool s i f).length = s.schools.length := by unfold setSchool; simp
theorem setSchool_at {s t : SS} {i : Nat} {f : Vbdbam.School → Vbdbam.School} (e : t.schools = setSchool s i f) (j : Nat) (h : j < s.schools.length) : schoolAt t j = if j = i then f (schoolAt s j) else schoolAt s j := by
  unfold schoolAt
  rw [e]
  unfold setSchool
  rw [List.getElem?_map, List.getElem?_range h]
  rfl
theorem schs_set {s t : SS} {i : Nat} (hl : t.schools.length = s.schools.length) (hi : i < s.schools.length) (h : ∀ j, j < s.schools.length → j ≠ i → schM t j = schM s j) : schs t = (schs s).set i (schM t i) := by
  apply List.ext_getElem?
  intro j
  by_cases hj : j < s.schools.length
  · rw [schs_get t j (by omega)]
    by_cases e : j = i
    · subst e
      rw [List.getElem?_set_self (by rw [schs_len]; exact hj)]
    · rw [List.getElem?_set_ne (by omega), schs_get s j hj, h j hj e]
  · rw [List.getElem?_eq_none (by rw [schs_len]; omega), List.getElem?_eq_none (by rw [List.length_set, schs_len]; omega)]
theorem setS_of {s : SS} {i : Nat} (hi : i < s.schools.length) (f : MS → MS) : ((mir s).setS i f) = { mir s with schools := (schs s).set i (f (schM s i)) } := by
  unfold M.setS
  rw [mir_sch s i hi]
  rfl

/-! ### sums -/
theorem total_eq (l : List Nat) : total l = l.sum := by
  unfold total
  have : ∀ (l : List Nat) (a : Nat), l.foldl (fun a b => a + b) a = a + l.sum := by
    intro l
    induction l with
    | nil => intro a; simp
    | cons x r ih => intro a; rw [List.foldl_cons, ih, List.sum_cons]; omega
  rw [this]; simp
theorem sumI_eq (l : List Int) : l.foldl (fun a b => a + b) 0 = l.sum := by
  have : ∀ (l : List Int) (a : Int), l.foldl (fun a b => a + b) a = a + l.sum := by
    intro l
    induction l with
    | nil => intro a; simp
    | cons x r ih => intro a; rw [List.foldl_cons, ih, List.sum_cons]; omega
  rw [this]; simp
theorem cast_sum (l : List Nat) : ((l.sum : Nat) : Int) = (l.map fun (n : Nat) => (n : Int)).sum := by
  induction l with
  | nil => rfl
  | cons x r ih => rw [List.sum_cons, List.map_cons, List.sum_cons, ← ih]; omega
theorem sum_range_add (n : Nat) (f g : Nat → Nat) : ((List.range n).map fun i => f i + g i).sum = ((List.range n).map f).sum + ((List.range n).map g).sum := by
  induction n with
  | zero => rfl
  | succ n ih =>
    rw [List.range_succ, List.map_append, List.map_append, List.map_append, List.sum_append, List.sum_append, List.sum_append, ih]
    simp
    omega
theorem sum_zero {l : List Nat} (h : ∀ x ∈ l, x = 0) : l.sum = 0 := by
  induction l with
  | nil => rfl
  | cons x r ih => rw [List.sum_cons, h x (by simp), ih fun y hy => h y (by simp [hy])]
theorem sum_range_ite (n i : Nat) (h : i < n) : ((List.range n).map fun j => if j = i then 1 else 0).sum = 1 := by
  induction n with
  | zero => omega
  | succ n ih =>
    rw [List.range_succ, List.map_append, List.sum_append]
    by_cases e : i = n
    · subst e
      have : ((List.range i).map fun j => if j = i then 1 else 0).sum = 0 := by
        apply sum_zero
        intro x hx
        obtain ⟨j, hj, rfl⟩ := List.mem_map.mp hx
        have := List.mem_range.mp hj
        rw [if_neg (by omega)]
      rw [this]
      simp
    · rw [ih (by omega)]
      have : n ≠ i := by omega
      simp [this]
theorem sum_le_of {l : List Nat} {f g : Nat → Nat} (h : ∀ i ∈ l, f i ≤ g i) : (l.map f).sum ≤ (l.map g).sum := by
  induction l with
  | nil => simp
  | cons x r ih =>
    rw [List.map_cons, List.map_cons, List.sum_cons, List.sum_cons]
    have := h x (by simp)
    have := ih fun i hi => h i (by simp [hi])
    omega
theorem offers_sum {s : SS} (hs : ∀ o ∈ s.offers, o.school < s.schools.length) : ((List.range s.schools.length).map (offersTo s)).sum = s.offers.length := by
  unfold offersTo
  revert hs
  generalize s.offers = l
  intro hs
  induction l with
  | nil =>
    apply sum_zero
    intro x hx
    obtain ⟨j, _, rfl⟩ := List.mem_map.mp hx
    rfl
  | cons o r ih =>
    have e : (fun i => ((o :: r).filter fun x => x.school == i).length) = fun i => (if i = o.school then 1 else 0) + (r.filter fun x => x.school == i).length := by
      funext i
      rw [List.filter_cons]
      by_cases h : o.school = i
      · subst h; simp; omega
      · have h' : ¬ i = o.school := fun z => h z.symm
        simp [h, h']
    rw [e, sum_range_add, ih fun o' h' => hs o' (by simp [h']), sum_range_ite _ _ (hs o (by simp)), List.length_cons]
    omega
theorem has_sum (s : SS) : total (s.schools.map fun x => x.has_) = ((List.range s.schools.length).map fun i => (schoolAt s i).has_).sum := by
  rw [total_eq]
  conv => lhs; rw [schools_eq s]
  rw [List.map_map]
  rfl
theorem used_sum {s : SS} (hs : ∀ o ∈ s.offers, o.school < s.schools.length) : used s = ((List.range s.schools.length).map (load s)).sum := by
  unfold used
  rw [has_sum, ← offers_sum hs, ← sum_range_add]
  rfl

/-! ### loads -/
theorem mir_standing {s : SS} (I : SInv s) {i : Nat} (hi : i < s.schools.length) : (mir s).standing (idAt s i : Nat) = (offersTo s i : Nat) := by
  unfold M.standing offersTo
  show ((((s.offers.map (offM s)).filter fun o => o.school == ((idAt s i : Nat) : Int)).length : Nat) : Int) = _
  rw [List.filter_map, List.length_map]
  congr 2
  apply List.filter_congr
  intro o ho
  show (((idAt s o.school : Nat) : Int) == ((idAt s i : Nat) : Int)) = _
  rw [int_beq]
  by_cases e : o.school = i
  · subst e; simp
  · have : idAt s o.school ≠ idAt s i := fun q => e (I.id_inj (I.offS o ho) hi q)
    rw [beq_eq_false_iff_ne.mpr e, beq_eq_false_iff_ne.mpr this]
theorem mir_loadS {s : SS} (I : SInv s) {i : Nat} (hi : i < s.schools.length) : (mir s).loadS (schM s i) = (load s i : Nat) := by
  unfold M.loadS load
  show ((schoolAt s i).has_ : Int) + (mir s).standing (idAt s i : Nat) = _
  rw [mir_standing I hi]
  omega
def loadsN (s : SS) : List Int := (List.range s.schools.length).map fun i => ((load s i : Nat) : Int)
theorem mir_loads {s : SS} (I : SInv s) : (mir s).loads = loadsN s := by
  unfold M.loads loadsN
  show (schs s).map _ = _
  unfold schs
  rw [List.map_map]
  apply List.map_congr_left
  intro i hi
  exact mir_loadS I (List.mem_range.mp hi)
theorem loadsN_len (s : SS) : (loadsN s).length = s.schools.length := by unfold loadsN; simp
theorem loadsN_get (s : SS) (i : Nat) (h : i < s.schools.length) : (loadsN s)[i]? = some ((load s i : Nat) : Int) := by
  unfold loadsN
  rw [List.getElem?_map, List.getElem?_range h]
  rfl
theorem loadsN_getD (s : SS) (i : Nat) (h : i < s.schools.length) : (loadsN s).getD i 0 = ((load s i : Nat) : Int) := by
  rw [List.getD_eq_getElem?_getD, loadsN_get s i h]
  rfl
theorem loadsN_sum {s : SS} (hs : ∀ o ∈ s.offers, o.school < s.schools.length) : (loadsN s).sum = (used s : Nat) := by
  rw [used_sum hs, cast_sum, List.map_map]
  rfl
theorem mir_taken (s : SS) : (mir s).taken = (total (s.schools.map fun x => x.has_) : Nat) := by
  rw [has_sum, cast_sum, List.map_map]
  show ((schs s).map MS.has).sum = _
  unfold schs
  rw [List.map_map]
  rfl
theorem mir_waits (s : SS) (i : Nat) : waitsM (mir s).rules.cap (schM s i) (load s i : Nat) = waits s i := by
  unfold waitsM waits
  show (decide (((load s i : Nat) : Int) < ((schoolAt s i).wanted : Nat)) && decide (((load s i : Nat) : Int) < (s.rules.cap : Nat))) = _
  congr 1 <;> exact decide_eq_decide.mpr (by omega)
end Eh

-- EhM3
set_option Elab.async false
set_option linter.all false
namespace Eh
open Vbdbam (Bytes schoolAt setSchool offersTo load used waits nextSchool offerTo offersMade gone lapsed balance sumOf owed percent swings missing finesOf queueFrom idAt placeOf total)

/-! ### to whom the next offer goes -/
def FolP (s : SS) (k : Nat) (f : Int) : Prop :=
  (f = -1 ∧ ∀ j, j < k → waits s j = false) ∨ ∃ i : Nat, i < k ∧ f = i ∧ waits s i = true ∧ (∀ j, j < k → waits s j = true → load s i ≤ load s j) ∧ ∀ j, j < i → waits s j = true → load s i < load s j
theorem folStep_is (s : SS) (f : Int) (k : Nat) (hk : k < s.schools.length) : folStep (mir s).rules.cap (schs s) (loadsN s) f k =
    if (waits s k && (decide (f < 0) || decide (((load s k : Nat) : Int) < (loadsN s).getD f.toNat 0))) = true then (k : Int) else f := by
  unfold folStep
  rw [schs_getD s k hk, loadsN_getD s k hk, mir_waits]
theorem folP_step {s : SS} {k : Nat} {f : Int} (hk : k < s.schools.length) (h : FolP s k f) : FolP s (k + 1) (folStep (mir s).rules.cap (schs s) (loadsN s) f k) := by
  rw [folStep_is s f k hk]
  rcases h with ⟨rfl, h⟩ | ⟨i, hi, rfl, hw, h1, h2⟩
  · by_cases w : waits s k = true
    · rw [if_pos (by rw [w]; simp)]
      refine .inr ⟨k, by omega, rfl, w, fun j hj wj => ?_, fun j hj wj => ?_⟩
      · by_cases e : j = k
        · rw [e]; exact Nat.le_refl _
        · have := h j (by omega)
          rw [this] at wj; cases wj
      · have := h j hj
        rw [this] at wj; cases wj
    · have w' : waits s k = false := by simpa using w
      rw [if_neg (by rw [w']; simp)]
      refine .inl ⟨rfl, fun j hj => ?_⟩
      by_cases e : j = k
      · rw [e]; exact w'
      · exact h j (by omega)
  · have e0 : decide ((i : Int) < 0) = false := decide_eq_false (by omega)
    have e1 : ((i : Int)).toNat = i := by omega
    rw [e0, e1, loadsN_getD s i (by omega), Bool.false_or]
    by_cases w : waits s k = true
    · by_cases l : load s k < load s i
      · rw [if_pos (by rw [w, decide_eq_true (by omega)] <;> rfl)]
        refine .inr ⟨k, by omega, rfl, w, fun j hj wj => ?_, fun j hj wj => ?_⟩
        · by_cases e : j = k
          · rw [e]; exact Nat.le_refl _
          · have := h1 j (by omega) wj
            omega
        · have := h1 j hj wj
          omega
      · rw [if_neg (by rw [decide_eq_false (by omega)]; simp)]
        refine .inr ⟨i, by omega, rfl, hw, fun j hj wj => ?_, h2⟩
        by_cases e : j = k
        · rw [e]; omega
        · exact h1 j (by omega) wj
    · have w' : waits s k = false := by simpa using w
      rw [if_neg (by rw [w']; simp)]
      refine .inr ⟨i, by omega, rfl, hw, fun j hj wj => ?_, h2⟩
      by_cases e : j = k
      · rw [e, w'] at wj; cases wj
      · exact h1 j (by omega) wj
theorem folP_all (s : SS) : ∀ k, k ≤ s.schools.length → FolP s k ((List.range k).foldl (folStep (mir s).rules.cap (schs s) (loadsN s)) (-1))
  | 0, _ => .inl ⟨rfl, fun _ h => absurd h (by omega)⟩
  | k + 1, h => by
    rw [List.range_succ, List.foldl_append]
    exact folP_step (by omega) (folP_all s k (by omega))
theorem next_none {s : SS} (h : ∀ j, j < s.schools.length → waits s j = false) : nextSchool s = none := by
  unfold nextSchool
  have e : (List.range s.schools.length).filter (waits s) = [] := by
    rw [List.filter_eq_nil_iff]
    intro j hj
    rw [h j (List.mem_range.mp hj)]
    decide
  rw [e]
  rfl
theorem range_split {n i : Nat} (h : i < n) : ∃ r, List.range n = List.range i ++ i :: r := by
  induction n with
  | zero => omega
  | succ n ih =>
    rw [List.range_succ]
    by_cases e : i = n
    · subst e; exact ⟨[], rfl⟩
    · obtain ⟨r, hr⟩ := ih (by omega)
      exact ⟨r ++ [n], by rw [hr]; simp⟩
theorem next_some {s : SS} {i : Nat} (hi : i < s.schools.length) (hw : waits s i = true) (h1 : ∀ j, j < s.schools.length → waits s j = true → load s i ≤ load s j) (h2 : ∀ j, j < i → waits s j = true → load s i < load s j) : nextSchool s = some i := by
  unfold nextSchool
  show List.find? _ ((List.range s.schools.length).filter (waits s)) = some i
  obtain ⟨r, hr⟩ := range_split hi
  have hmem : ∀ j, j ∈ (List.range s.schools.length).filter (waits s) ↔ j < s.schools.length ∧ waits s j = true := fun j => by rw [List.mem_filter, List.mem_range]
  have p1 : ((List.range s.schools.length).filter (waits s)).all (fun j => decide (load s i ≤ load s j)) = true := by
    rw [List.all_eq_true]
    intro j hj
    obtain ⟨a, b⟩ := (hmem j).mp hj
    exact decide_eq_true (h1 j a b)
  have p2 : ∀ j, j < i → waits s j = true → ((List.range s.schools.length).filter (waits s)).all (fun k => decide (load s j ≤ load s k)) = false := by
    intro j hj wj
    rw [List.all_eq_false]
    refine ⟨i, (hmem i).mpr ⟨hi, hw⟩, ?_⟩
    have := h2 j hj wj
    simp
    omega
  generalize hL : (fun i => ((List.range s.schools.length).filter (waits s)).all fun j => decide (load s i ≤ load s j)) = g
  have p1' : g i = true := by rw [← hL]; exact p1
  have p2' : ∀ j, j < i → waits s j = true → g j = false := by rw [← hL]; exact p2
  rw [hr, List.filter_append, List.filter_cons, if_pos hw, List.find?_append]
  have e : List.find? g ((List.range i).filter (waits s)) = none := by
    rw [List.find?_eq_none]
    intro j hj
    obtain ⟨a, b⟩ := List.mem_filter.mp hj
    rw [p2' j (List.mem_range.mp a) b]
    decide
  rw [e, Option.none_or, List.find?_cons]
  rw [p1']
theorem following_is (s : SS) : following (mir s).rules.cap (schs s) (loadsN s) = (match nextSchool s with | none => -1 | some i => (i : Int)) := by
  unfold following
  rw [schs_len]
  rcases folP_all s s.schools.length (Nat.le_refl _) with ⟨e, h⟩ | ⟨i, hi, e, hw, h1, h2⟩
  · rw [e, next_none h]
  · rw [e, next_some hi hw h1 h2]
theorem next_waits {s : SS} {i : Nat} (h : nextSchool s = some i) : i < s.schools.length ∧ waits s i = true := by
  unfold nextSchool at h
  have := List.mem_of_find?_eq_some h
  obtain ⟨a, b⟩ := List.mem_filter.mp this
  exact ⟨List.mem_range.mp a, b⟩

/-! ### one offer made -/
theorem offersTo_offerTo (s : SS) (i j : Nat) : offersTo (offerTo s i) j = offersTo s j + if j = i then 1 else 0 := by
  unfold offersTo
  show ((s.offers ++ [(⟨s.next, i, s.day⟩ : Vbdbam.Offer)]).filter fun o => o.school == j).length = _
  rw [List.filter_append, List.length_append]
  congr 1
  by_cases e : j = i
  · subst e; simp
  · have e' : ¬ i = j := fun z => e z.symm
    simp [e, e']
theorem load_offerTo (s : SS) (i j : Nat) : load (offerTo s i) j = load s j + if j = i then 1 else 0 := by
  unfold load
  rw [offersTo_offerTo]
  show (schoolAt s j).has_ + _ = _
  omega
theorem used_offerTo (s : SS) (i : Nat) : used (offerTo s i) = used s + 1 := by
  unfold used
  show _ + (s.offers ++ [_]).length = _
  rw [List.length_append]
  show total (s.schools.map fun x => x.has_) + (s.offers.length + 1) = _
  omega
theorem loadsN_offerTo (s : SS) {i : Nat} (hi : i < s.schools.length) : loadsN (offerTo s i) = bump (loadsN s) i := by
  apply List.ext_getElem?
  intro j
  unfold bump
  by_cases hj : j < s.schools.length
  · rw [loadsN_get (offerTo s i) j hj, load_offerTo]
    by_cases e : j = i
    · subst e
      rw [List.getElem?_set_self (by rw [loadsN_len]; exact hj), if_pos rfl, loadsN_getD s j hj]
      exact congrArg some (by omega)
    · rw [List.getElem?_set_ne (by omega), if_neg e, loadsN_get s j hj, Nat.add_zero]
  · rw [List.getElem?_eq_none (by rw [loadsN_len]; exact Nat.le_of_not_lt hj), List.getElem?_eq_none (by rw [List.length_set, loadsN_len]; omega)]
theorem mir_offerTo (s : SS) {i : Nat} (hi : i < s.schools.length) : mir (offerTo s i) = (mir s).offerTo i := by
  unfold M.offerTo
  rw [mir_sch s i hi]
  have e : (s.offers ++ [(⟨s.next, i, s.day⟩ : Vbdbam.Offer)]).map (offM s) = s.offers.map (offM s) ++ [⟨((s.next : Nat) : Int), (schM s i).number, ((s.day : Nat) : Int)⟩] := by
    rw [List.map_append]
    rfl
  show M.mk _ _ ((s.offers ++ [(⟨s.next, i, s.day⟩ : Vbdbam.Offer)]).map (offM s)) _ _ _ _ = _
  rw [e]
  rfl
theorem SInv.offer {s : SS} (I : SInv s) {i : Nat} (hi : i < s.schools.length) (hw : waits s i = true) (hu : used s < s.rules.places) : SInv (offerTo s i) where
  rb := I.rb
  ids := I.ids
  few := I.few
  fit := fun j hj => by
    show _ ≤ (schoolAt s j).wanted
    rw [load_offerTo]
    have := I.fit j hj
    by_cases e : j = i
    · subst e
      unfold waits at hw
      rw [Bool.and_eq_true] at hw
      have := of_decide_eq_true hw.1
      rw [if_pos rfl]
      omega
    · rw [if_neg e]; omega
  small := I.small
  offS := fun o ho => by
    rcases List.mem_append.mp ho with h | h
    · exact I.offS o h
    · have e : o = ⟨s.next, i, s.day⟩ := by simpa using h
      rw [e]; exact hi
  offN := by
    show (s.offers ++ [(⟨s.next, i, s.day⟩ : Vbdbam.Offer)]).Pairwise _
    rw [List.pairwise_append]
    refine ⟨I.offN, List.pairwise_singleton _ _, fun a ha b hb => ?_⟩
    have e : b = ⟨s.next, i, s.day⟩ := by simpa using hb
    rw [e]
    exact I.offL a ha
  offL := fun o ho => by
    show o.number < s.next + 1
    rcases List.mem_append.mp ho with h | h
    · have := I.offL o h
      omega
    · have e : o = ⟨s.next, i, s.day⟩ := by simpa using h
      rw [e]; exact Nat.lt_succ_self _
  room := by
    rw [used_offerTo]
    exact hu
  mon := I.mon
theorem make_is : ∀ (n : Nat) {s : SS}, SInv s → makeM n (mir s) (loadsN s) = mir (offersMade n s) ∧ SInv (offersMade n s)
  | 0, s, I => ⟨rfl, I⟩
  | n + 1, s, I => by
    have hs : (loadsN s).sum = ((used s : Nat) : Int) := loadsN_sum I.offS
    have hp : (mir s).rules.places = ((s.rules.places : Nat) : Int) := rfl
    unfold makeM offersMade
    rw [show (mir s).schools = schs s from rfl, following_is, hs, hp]
    by_cases hu : s.rules.places ≤ used s
    · rw [if_pos hu, if_neg (by intro h; omega)]
      exact ⟨rfl, I⟩
    · rw [if_neg hu]
      cases e : nextSchool s with
      | none =>
        rw [if_neg (by intro h; exact absurd h.1 (by show ¬ (0 : Int) ≤ -1; decide))]
        exact ⟨rfl, I⟩
      | some i =>
        obtain ⟨hi, hw⟩ := next_waits e
        show (if (0 : Int) ≤ (i : Int) ∧ _ then makeM n ((mir s).offerTo ((i : Int)).toNat) (bump (loadsN s) ((i : Int)).toNat) else _) = _ ∧ _
        have ei : ((i : Int)).toNat = i := by omega
        rw [if_pos (by constructor <;> omega), ei, ← mir_offerTo s hi, ← loadsN_offerTo s hi]
        exact make_is n (I.offer hi hw (by omega))
theorem makeOffers_is {s : SS} (I : SInv s) : (mir s).makeOffers = mir (offersMade s.rules.places s) ∧ SInv (offersMade s.rules.places s) := by
  unfold M.makeOffers
  rw [mir_loads I]
  exact make_is _ I

/-! ### the queue -/
theorem queue_is : ∀ (n : Nat) (s : SS), queueM (mir s).rules.cap (schs s) n (loadsN s) = (queueFrom n s).map fun i => ((idAt s i : Nat) : Int)
  | 0, s => rfl
  | n + 1, s => by
    unfold queueM queueFrom
    rw [following_is]
    cases e : nextSchool s with
    | none => rfl
    | some i =>
      obtain ⟨hi, hw⟩ := next_waits e
      show (if (0 : Int) ≤ (i : Int) then ((schs s).getD ((i : Int)).toNat MS.zero).number :: queueM (mir s).rules.cap (schs s) n (bump (loadsN s) ((i : Int)).toNat) else []) = _
      have ei : ((i : Int)).toNat = i := by omega
      rw [if_pos (by omega), ei, schs_getD s i hi, ← loadsN_offerTo s hi, List.map_cons]
      congr 1
      exact queue_is n (offerTo s i)
def roomOf (s : SS) : Nat := ((List.range s.schools.length).map fun i => min (schoolAt s i).wanted s.rules.cap - load s i).sum
theorem sum_one {n i : Nat} {f g : Nat → Nat} (hi : i < n) (h1 : f i + 1 ≤ g i) (h2 : ∀ j, j < n → f j ≤ g j) : ((List.range n).map f).sum + 1 ≤ ((List.range n).map g).sum := by
  have e : ((List.range n).map fun j => f j + if j = i then 1 else 0).sum = ((List.range n).map f).sum + 1 := by
    rw [sum_range_add, sum_range_ite n i hi]
  rw [← e]
  apply sum_le_of
  intro j hj
  by_cases c : j = i
  · subst c; rw [if_pos rfl]; exact h1
  · rw [if_neg c]; have := h2 j (List.mem_range.mp hj); omega
theorem roomOf_offer {s : SS} {i : Nat} (hi : i < s.schools.length) (hw : waits s i = true) : roomOf (offerTo s i) + 1 ≤ roomOf s := by
  unfold roomOf
  show ((List.range s.schools.length).map fun j => min (schoolAt s j).wanted s.rules.cap - load (offerTo s i) j).sum + 1 ≤ _
  unfold waits at hw
  rw [Bool.and_eq_true] at hw
  have a := of_decide_eq_true hw.1
  have b := of_decide_eq_true hw.2
  refine sum_one hi ?_ fun j hj => ?_
  · rw [load_offerTo, if_pos rfl]; omega
  · rw [load_offerTo]; omega
theorem queueEnds_is : ∀ (n : Nat) (s : SS), roomOf s ≤ n → queueEnds (mir s).rules.cap (schs s) n (loadsN s)
  | 0, s, h => by
    show following _ _ _ < 0
    rw [following_is]
    cases e : nextSchool s with
    | none => decide
    | some i =>
      obtain ⟨hi, hw⟩ := next_waits e
      have := roomOf_offer hi hw
      omega
  | n + 1, s, h => by
    show 0 ≤ following _ _ _ → queueEnds _ _ n (bump (loadsN s) (following _ _ _).toNat)
    rw [following_is]
    cases e : nextSchool s with
    | none => intro z; exact absurd z (by decide)
    | some i =>
      obtain ⟨hi, hw⟩ := next_waits e
      intro _
      show queueEnds _ _ n (bump (loadsN s) ((i : Int)).toNat)
      have ei : ((i : Int)).toNat = i := by omega
      rw [ei, ← loadsN_offerTo s hi]
      exact queueEnds_is n (offerTo s i) (by have := roomOf_offer hi hw; omega)
theorem sum_le_mul {l : List Nat} {f : Nat → Nat} {c : Nat} (h : ∀ i ∈ l, f i ≤ c) : (l.map f).sum ≤ l.length * c := by
  induction l with
  | nil => simp
  | cons x r ih =>
    rw [List.map_cons, List.sum_cons, List.length_cons, Nat.succ_mul]
    have := h x (by simp)
    have := ih fun i hi => h i (by simp [hi])
    omega
theorem roomOf_le {s : SS} (I : SInv s) : roomOf s ≤ 300 := by
  unfold roomOf
  have : ((List.range s.schools.length).map fun i => min (schoolAt s i).wanted s.rules.cap - load s i).sum ≤ (List.range s.schools.length).length * 9 := by
    apply sum_le_mul
    intro i _
    have := I.rb.c2
    omega
  rw [List.length_range] at this
  have := I.few
  omega
theorem mir_queueEnds {s : SS} (I : SInv s) : queueEnds (mir s).rules.cap (mir s).schools 300 (mir s).loads := by
  rw [mir_loads I]
  exact queueEnds_is 300 s (roomOf_le I)
theorem queueOf_is {s : SS} (I : SInv s) : queueOf (mir s) = (queueFrom 300 s).map fun i => ((idAt s i : Nat) : Int) := by
  unfold queueOf
  rw [mir_loads I]
  exact queue_is 300 s

/-! ### an offer that is gone -/
theorem gone_offers (s : SS) (o : Vbdbam.Offer) : (gone s o).offers = s.offers.filter fun x => x.number != o.number := rfl
theorem gone_at {s : SS} {o : Vbdbam.Offer} {j : Nat} (hj : j < s.schools.length) : schoolAt (gone s o) j = if j = o.school then { schoolAt s j with wanted := (schoolAt s j).wanted - 1 } else schoolAt s j :=
  setSchool_at (s := s) (t := gone s o) (i := o.school) (f := fun x => { x with wanted := x.wanted - 1 }) rfl j hj
theorem gone_len (s : SS) (o : Vbdbam.Offer) : (gone s o).schools.length = s.schools.length := setSchool_len s o.school fun x => { x with wanted := x.wanted - 1 }
theorem gone_id {s : SS} {o : Vbdbam.Offer} {j : Nat} (hj : j < s.schools.length) : idAt (gone s o) j = idAt s j := by
  unfold idAt
  rw [gone_at hj]
  by_cases e : j = o.school
  · rw [if_pos e]
  · rw [if_neg e]
theorem filter_len_lt {α : Type} {l : List α} {p q : α → Bool} (hpq : ∀ x ∈ l, p x = true → q x = true) {o : α} (ho : o ∈ l) (h1 : q o = true) (h2 : p o = false) : (l.filter p).length + 1 ≤ (l.filter q).length := by
  induction l with
  | nil => cases ho
  | cons x r ih =>
    have le : ∀ (r' : List α), (∀ x ∈ r', p x = true → q x = true) → (r'.filter p).length ≤ (r'.filter q).length := by
      intro r'
      induction r' with
      | nil => intro _; exact Nat.le_refl _
      | cons y t iht =>
        intro h
        rw [List.filter_cons, List.filter_cons]
        have ht := iht fun z hz => h z (by simp [hz])
        by_cases py : p y = true
        · rw [if_pos py, if_pos (h y (by simp) py), List.length_cons, List.length_cons]; omega
        · rw [if_neg py]
          by_cases qy : q y = true
          · rw [if_pos qy, List.length_cons]; omega
          · rw [if_neg qy]; exact ht
    rw [List.filter_cons, List.filter_cons]
    by_cases e : x = o
    · subst e
      rw [if_neg (by rw [h2]; decide), if_pos h1, List.length_cons]
      have := le r fun z hz => hpq z (by simp [hz])
      omega
    · have ho' : o ∈ r := by
        rcases List.mem_cons.mp ho with z | z
        · exact absurd z.symm e
        · exact z
      have := ih (fun z hz => hpq z (by simp [hz])) ho'
      by_cases px : p x = true
      · rw [if_pos px, if_pos (hpq x (by simp) px), List.length_cons, List.length_cons]; omega
      · rw [if_neg px]
        by_cases qx : q x = true
        · rw [if_pos qx, List.length_cons]; omega
        · rw [if_neg qx]; exact this
theorem filter_len_le {α : Type} {l : List α} {p q : α → Bool} (h : ∀ x ∈ l, p x = true → q x = true) : (l.filter p).length ≤ (l.filter q).length := by
  induction l with
  | nil => exact Nat.le_refl _
  | cons y t iht =>
    rw [List.filter_cons, List.filter_cons]
    have ht := iht fun z hz => h z (by simp [hz])
    by_cases py : p y = true
    · rw [if_pos py, if_pos (h y (by simp) py), List.length_cons, List.length_cons]; omega
    · rw [if_neg py]
      by_cases qy : q y = true
      · rw [if_pos qy, List.length_cons]; omega
      · rw [if_neg qy]; exact ht
/-- offers taken away by their number: how many stay of a school -/
theorem away_le {s t : SS} {n : Nat} (e : t.offers = s.offers.filter fun x => x.number != n) (j : Nat) : offersTo t j ≤ offersTo s j := by
  unfold offersTo
  rw [e, List.filter_filter]
  exact filter_len_le fun x _ h => by
    rw [Bool.and_eq_true] at h
    exact h.1
theorem away_lt {s t : SS} {o : Vbdbam.Offer} (ho : o ∈ s.offers) (e : t.offers = s.offers.filter fun x => x.number != o.number) : offersTo t o.school + 1 ≤ offersTo s o.school := by
  unfold offersTo
  rw [e, List.filter_filter]
  refine filter_len_lt (fun x _ h => ?_) ho (by simp) (by simp)
  rw [Bool.and_eq_true] at h
  exact h.1
theorem SInv.wanted_pos {s : SS} (I : SInv s) {o : Vbdbam.Offer} (ho : o ∈ s.offers) : 1 ≤ (schoolAt s o.school).wanted := by
  have h := I.fit o.school (I.offS o ho)
  have : 1 ≤ offersTo s o.school := by
    unfold offersTo
    apply List.length_pos_of_mem (a := o)
    rw [List.mem_filter]
    exact ⟨ho, by simp⟩
  unfold load at h
  omega
theorem SInv.gone {s : SS} (I : SInv s) {o : Vbdbam.Offer} (ho : o ∈ s.offers) : SInv (Vbdbam.gone s o) where
  rb := I.rb
  ids := by
    have e : (Vbdbam.gone s o).schools.map (fun x => x.id) = s.schools.map fun x => x.id := by
      apply List.ext_getElem?
      intro j
      by_cases hj : j < s.schools.length
      · rw [idAt_get (Vbdbam.gone s o) j (by rw [gone_len]; exact hj), idAt_get s j hj, gone_id hj]
      · rw [List.getElem?_eq_none (by rw [List.length_map, gone_len]; omega), List.getElem?_eq_none (by rw [List.length_map]; omega)]
    rw [e]
    exact I.ids
  few := by rw [gone_len]; exact I.few
  fit := fun j hj => by
    rw [gone_len] at hj
    have f := I.fit j hj
    unfold load at f ⊢
    rw [gone_at hj]
    by_cases e : j = o.school
    · rw [if_pos e]
      have l := away_lt (t := Vbdbam.gone s o) ho rfl
      rw [← e] at l
      show (schoolAt s j).has_ + _ ≤ (schoolAt s j).wanted - 1
      omega
    · rw [if_neg e]
      have := away_le (s := s) (t := Vbdbam.gone s o) rfl j
      omega
  small := fun j hj => by
    rw [gone_len] at hj
    have := I.small j hj
    rw [gone_at hj]
    by_cases e : j = o.school
    · rw [if_pos e]; show (schoolAt s j).wanted - 1 ≤ 20; omega
    · rw [if_neg e]; exact this
  offS := fun x hx => by
    rw [gone_len]
    exact I.offS x (List.mem_filter.mp hx).1
  offN := I.offN.filter _
  offL := fun x hx => I.offL x (List.mem_filter.mp hx).1
  room := by
    have h := I.room
    have e : total ((Vbdbam.gone s o).schools.map fun x => x.has_) = total (s.schools.map fun x => x.has_) := by
      rw [has_sum, has_sum, gone_len]
      congr 1
      apply List.map_congr_left
      intro j hj
      rw [gone_at (List.mem_range.mp hj)]
      by_cases c : j = o.school
      · rw [if_pos c]
      · rw [if_neg c]
    unfold used at h ⊢
    rw [e]
    have : (Vbdbam.gone s o).offers.length ≤ s.offers.length := List.length_filter_le _ _
    show _ ≤ s.rules.places
    omega
  mon := fun e he => by
    rw [gone_len]
    exact I.mon e he
def decS (ss : List MS) (o : MO) : List MS := match ss.findIdx? fun s => s.number == o.school with
  | some i => ss.set i { ss.getD i MS.zero with wanted := (ss.getD i MS.zero).wanted - 1 }
  | none => ss
theorem schs_find (s : SS) (n : Int) : (schs s).findIdx? (fun x => x.number == n) = placeOf s n := mir_find s n
theorem decS_is {s : SS} (I : SInv s) {o : Vbdbam.Offer} (ho : o ∈ s.offers) : decS (schs s) (offM s o) = schs (gone s o) := by
  have hl := I.offS o ho
  unfold decS
  rw [show (offM s o).school = ((idAt s o.school : Nat) : Int) from rfl, schs_find, placeOf_id I hl]
  show (schs s).set o.school _ = _
  rw [schs_getD s o.school hl, schs_set (s := s) (t := gone s o) (i := o.school) (gone_len s o) hl]
  · congr 1
    unfold schM
    rw [gone_at hl, if_pos rfl]
    have := I.wanted_pos ho
    show MS.mk _ (((schoolAt s o.school).wanted : Int) - 1) _ _ _ _ _ _ _ = MS.mk _ (((schoolAt s o.school).wanted - 1 : Nat) : Int) _ _ _ _ _ _ _
    have e : (((schoolAt s o.school).wanted : Int) - 1) = (((schoolAt s o.school).wanted - 1 : Nat) : Int) := by omega
    rw [e]
    rfl
  · intro j hj hne
    unfold schM
    rw [gone_at hj, if_neg hne]
    rfl
/-- many gone -/
theorem gones {t : SS} : ∀ (l : List Vbdbam.Offer) {s : SS}, SInv s → (∀ o ∈ l, o ∈ s.offers) → l.Pairwise (fun a b => a.number < b.number) → (∀ j, j < s.schools.length → idAt s j = idAt t j) →
    SInv (l.foldl gone s) ∧ (l.map (offM t)).foldl decS (schs s) = schs (l.foldl gone s) ∧ (l.foldl gone s).schools.length = s.schools.length ∧ (∀ j, j < s.schools.length → idAt (l.foldl gone s) j = idAt t j) ∧
    (l.foldl gone s).offers = s.offers.filter (fun x => l.all fun o => x.number != o.number) ∧ (l.foldl gone s).rules = s.rules ∧ (l.foldl gone s).day = s.day ∧ (l.foldl gone s).next = s.next ∧ (l.foldl gone s).money = s.money ∧ (l.foldl gone s).closed = s.closed
  | [], s, I, _, _, hid => ⟨I, rfl, rfl, hid, (List.filter_eq_self.mpr fun _ _ => rfl).symm, rfl, rfl, rfl, rfl, rfl⟩
  | o :: r, s, I, hm, hp, hid => by
    have ho := hm o (by simp)
    obtain ⟨p1, p2⟩ := List.pairwise_cons.mp hp
    have ih := gones (t := t) r (s := gone s o) (I.gone ho) (fun x hx => by
      rw [gone_offers, List.mem_filter]
      refine ⟨hm x (by simp [hx]), ?_⟩
      have := p1 x hx
      simp
      omega) p2 (fun j hj => by
        rw [gone_len] at hj
        rw [gone_id hj]
        exact hid j hj)
    obtain ⟨a, b, c, d, e, f⟩ := ih
    rw [List.foldl_cons, List.map_cons, List.foldl_cons]
    have eo : offM t o = offM s o := by
      unfold offM
      rw [hid o.school (I.offS o ho)]
    rw [eo, decS_is I ho, gone_len] at *
    refine ⟨a, b, c, d, ?_, f⟩
    rw [e, gone_offers, List.filter_filter]
    apply List.filter_congr
    intro x _
    rw [List.all_cons, Bool.and_comm]
def lapB (answer day : Int) (o : MO) : Bool := decide (o.day + answer < day)
theorem lapse_fold (a d : Int) : ∀ (l : List MO) (ss : List MS) (st : List MO), l.foldl (lapseStep a d) (ss, st) = ((l.filter (lapB a d)).foldl decS ss, st ++ l.filter fun o => !lapB a d o)
  | [], ss, st => by simp
  | o :: r, ss, st => by
    rw [List.foldl_cons]
    by_cases h : o.day + a < d
    · have hb : lapB a d o = true := decide_eq_true h
      have e : lapseStep a d (ss, st) o = (decS ss o, st) := by
        unfold lapseStep decS
        rw [if_pos h]
        show (match ss.findIdx? _ with | some i => _ | none => _) = _
        cases ss.findIdx? fun s => s.number == o.school <;> rfl
      rw [e, lapse_fold a d r, List.filter_cons, if_pos hb, List.filter_cons, if_neg (by rw [hb]; decide)]
      rfl
    · have hb : lapB a d o = false := decide_eq_false h
      have e : lapseStep a d (ss, st) o = (ss, st ++ [o]) := by
        unfold lapseStep
        rw [if_neg h]
      rw [e, lapse_fold a d r, List.filter_cons, if_neg (by rw [hb]; decide), List.filter_cons, if_pos (by rw [hb]; rfl), List.append_assoc]
      rfl
theorem nodup_num {s : SS} (I : SInv s) {x y : Vbdbam.Offer} (hx : x ∈ s.offers) (hy : y ∈ s.offers) (e : x.number = y.number) : x = y := by
  have h := I.offN
  revert hx hy h
  generalize s.offers = l
  intro hx hy h
  induction l with
  | nil => cases hx
  | cons o r ih =>
    obtain ⟨p1, p2⟩ := List.pairwise_cons.mp h
    rcases List.mem_cons.mp hx with rfl | hx'
    · rcases List.mem_cons.mp hy with rfl | hy'
      · rfl
      · have := p1 y hy'; omega
    · rcases List.mem_cons.mp hy with rfl | hy'
      · have := p1 x hx'; omega
      · exact ih hx' hy' p2
theorem lapse_is {s : SS} (I : SInv s) : (mir s).lapse = mir ((lapsed s).foldl gone s) ∧ SInv ((lapsed s).foldl gone s) := by
  have hsub : ∀ o ∈ lapsed s, o ∈ s.offers := fun o ho => (List.mem_filter.mp ho).1
  obtain ⟨a, b, c, d, e, f1, f2, f3, f4, f5⟩ := gones (t := s) (lapsed s) I hsub (I.offN.filter _) fun _ _ => rfl
  refine ⟨?_, a⟩
  unfold M.lapse
  show (let x := (s.offers.map (offM s)).foldl (lapseStep ((s.rules.answer : Nat) : Int) ((s.day : Nat) : Int)) (schs s, []); ({ mir s with schools := x.1, offers := x.2 } : M)) = _
  rw [lapse_fold]
  have e1 : (s.offers.map (offM s)).filter (lapB ((s.rules.answer : Nat) : Int) ((s.day : Nat) : Int)) = (lapsed s).map (offM s) := by
    rw [List.filter_map]
    unfold lapsed
    congr 1
    apply List.filter_congr
    intro o _
    show decide (((o.day : Nat) : Int) + ((s.rules.answer : Nat) : Int) < ((s.day : Nat) : Int)) = decide (o.day + s.rules.answer < s.day)
    exact decide_eq_decide.mpr (by omega)
  have e2 : (s.offers.map (offM s)).filter (fun o => !lapB ((s.rules.answer : Nat) : Int) ((s.day : Nat) : Int) o) = (((lapsed s).foldl gone s).offers).map (offM ((lapsed s).foldl gone s)) := by
    rw [List.filter_map, e]
    have e3 : s.offers.filter ((fun o => !lapB ((s.rules.answer : Nat) : Int) ((s.day : Nat) : Int) o) ∘ offM s) = s.offers.filter fun x => (lapsed s).all fun o => x.number != o.number := by
      apply List.filter_congr
      intro o ho
      have hl : lapB ((s.rules.answer : Nat) : Int) ((s.day : Nat) : Int) (offM s o) = decide (o.day + s.rules.answer < s.day) := by
        show decide (((o.day : Nat) : Int) + ((s.rules.answer : Nat) : Int) < ((s.day : Nat) : Int)) = _
        exact decide_eq_decide.mpr (by omega)
      show (!lapB _ _ (offM s o)) = _
      rw [hl]
      by_cases h : o.day + s.rules.answer < s.day
      · rw [decide_eq_true h]
        symm
        show ((lapsed s).all fun o' => o.number != o'.number) = false
        rw [List.all_eq_false]
        refine ⟨o, ?_, by simp⟩
        unfold lapsed
        rw [List.mem_filter]
        exact ⟨ho, decide_eq_true h⟩
      · rw [decide_eq_false h]
        symm
        show ((lapsed s).all fun o' => o.number != o'.number) = true
        rw [List.all_eq_true]
        intro o' ho'
        have q : o'.day + s.rules.answer < s.day := of_decide_eq_true (List.mem_filter.mp ho').2
        have : o.number ≠ o'.number := fun z => h (by rw [nodup_num I ho (hsub o' ho') z]; exact q)
        simpa using this
    rw [e3]
    apply List.map_congr_left
    intro o ho
    unfold offM
    rw [d o.school (I.offS o (List.mem_filter.mp ho).1)]
  rw [e1, e2, b]
  show M.mk _ _ _ _ _ _ _ = M.mk _ _ _ _ _ _ _
  rw [f1, f2, f3, f4, f5]
  rfl
theorem SInv.tomorrow {s : SS} (I : SInv s) : SInv { s with day := s.day + 1 } := ⟨I.rb, I.ids, I.few, I.fit, I.small, I.offS, I.offN, I.offL, I.room, I.mon⟩
theorem night_is {s : SS} (I : SInv s) : (mir s).passNight = mir (Vbdbam.night s) ∧ SInv (Vbdbam.night s) := by
  have I1 : SInv { s with day := s.day + 1 } := I.tomorrow
  obtain ⟨e, I2⟩ := lapse_is I1
  unfold M.passNight Vbdbam.night
  have e0 : ({ mir s with day := (mir s).day + 1 } : M) = mir { s with day := s.day + 1 } := rfl
  rw [e0, e]
  dsimp only
  generalize (lapsed { s with day := s.day + 1 }).foldl gone { s with day := s.day + 1 } = u at I2
  show (if u.closed = true then mir u else (mir u).makeOffers) = mir (if u.closed = true then u else offersMade u.rules.places u) ∧ SInv (if u.closed = true then u else offersMade u.rules.places u)
  by_cases h : u.closed = true
  · rw [if_pos h, if_pos h]; exact ⟨rfl, I2⟩
  · rw [if_neg h, if_neg h]; exact makeOffers_is I2
theorem nights_succ (n : Nat) : ∀ s : SS, Vbdbam.nights (n + 1) s = Vbdbam.night (Vbdbam.nights n s) := by
  induction n with
  | zero => intro s; rfl
  | succ n ih => intro s; show Vbdbam.nights (n + 1) (Vbdbam.night s) = _; rw [ih]; rfl
theorem nights_is : ∀ (n : Nat) {s : SS}, SInv s → nightsM n (mir s) = mir (Vbdbam.nights n s) ∧ SInv (Vbdbam.nights n s)
  | 0, s, I => ⟨rfl, I⟩
  | n + 1, s, I => by
    obtain ⟨e, I1⟩ := nights_is n I
    show (nightsM n (mir s)).passNight = _ ∧ _
    rw [e, nights_succ]
    exact night_is I1
end Eh

-- EhM4
set_option Elab.async false
set_option linter.all false
namespace Eh
open Vbdbam (Bytes schoolAt setSchool offersTo load used waits nextSchool offerTo offersMade gone lapsed balance sumOf owed percent swings missing finesOf queueFrom idAt placeOf total)
open VbdbamNeutral (flatAns)

/-! ### money -/
theorem sumOf_eq (s : SS) (i k : Nat) : sumOf s i k = ((s.money.filter fun e => e.school == i && e.kind == k).map fun e => e.amount).sum := by
  unfold sumOf
  exact total_eq _
theorem sumOf_add {s t : SS} {e : Vbdbam.Entry} (h : t.money = s.money ++ [e]) (i k : Nat) : sumOf t i k = sumOf s i k + if e.school = i ∧ e.kind = k then e.amount else 0 := by
  rw [sumOf_eq, sumOf_eq, h, List.filter_append, List.map_append, List.sum_append]
  congr 1
  rw [List.filter_cons]
  by_cases c : e.school = i ∧ e.kind = k
  · rw [if_pos c, if_pos (by simp [c.1, c.2])]
    simp
  · rw [if_neg c, if_neg (by intro z; rw [Bool.and_eq_true] at z; exact c ⟨eq_of_beq z.1, eq_of_beq z.2⟩)]
    rfl
theorem sumOf_same {s t : SS} (h : t.money = s.money) (i k : Nat) : sumOf t i k = sumOf s i k := by unfold sumOf; rw [h]
theorem sumOf_none {s : SS} {i : Nat} (h : ∀ e ∈ s.money, e.school < i) (k : Nat) : sumOf s i k = 0 := by
  rw [sumOf_eq]
  have : (s.money.filter fun e => e.school == i && e.kind == k) = [] := by
    rw [List.filter_eq_nil_iff]
    intro e he
    have := h e he
    intro z
    rw [Bool.and_eq_true] at z
    have := eq_of_beq z.1
    omega
  rw [this]
  rfl
def sumL (l : List Vbdbam.Entry) (i k : Nat) : Nat := ((l.filter fun e => e.school == i && e.kind == k).map fun e => e.amount).sum
def balL (l : List Vbdbam.Entry) (i : Nat) : Int := ((l.filter fun e => e.school == i).map fun e => Vbdbam.signOf e.kind * (e.amount : Int)).sum
theorem sumL_cons (e : Vbdbam.Entry) (l : List Vbdbam.Entry) (i k : Nat) : sumL (e :: l) i k = (if e.school = i ∧ e.kind = k then e.amount else 0) + sumL l i k := by
  unfold sumL
  rw [List.filter_cons]
  by_cases c : e.school = i ∧ e.kind = k
  · rw [if_pos c, if_pos (by simp [c.1, c.2]), List.map_cons, List.sum_cons]
  · rw [if_neg c, if_neg (by intro z; rw [Bool.and_eq_true] at z; exact c ⟨eq_of_beq z.1, eq_of_beq z.2⟩)]
    omega
theorem balL_cons (e : Vbdbam.Entry) (l : List Vbdbam.Entry) (i : Nat) : balL (e :: l) i = (if e.school = i then Vbdbam.signOf e.kind * (e.amount : Int) else 0) + balL l i := by
  unfold balL
  rw [List.filter_cons]
  by_cases c : e.school = i
  · rw [if_pos c, if_pos (by simp [c]), List.map_cons, List.sum_cons]
  · rw [if_neg c, if_neg (by intro z; exact c (eq_of_beq z))]
    omega
theorem balL_eq (i : Nat) : ∀ (l : List Vbdbam.Entry), (∀ e ∈ l, e.kind < 5) → (sumL l i 0 : Int) + (sumL l i 2 : Int) - (sumL l i 1 : Int) - (sumL l i 3 : Int) - (sumL l i 4 : Int) = balL l i
  | [], _ => rfl
  | e :: l, h => by
    have ih := balL_eq i l fun x hx => h x (by simp [hx])
    have hk := h e (by simp)
    rw [balL_cons, ← ih, sumL_cons, sumL_cons, sumL_cons, sumL_cons, sumL_cons]
    by_cases c : e.school = i
    · rw [if_pos c]
      have : e.kind = 0 ∨ e.kind = 1 ∨ e.kind = 2 ∨ e.kind = 3 ∨ e.kind = 4 := by omega
      rcases this with q | q | q | q | q <;> simp [c, q, Vbdbam.signOf] <;> omega
    · simp [c]
theorem balance_eq (s : SS) (i : Nat) : balance s i = balL s.money i := by
  unfold balance balL
  exact sumI_eq _
theorem account_is {s : SS} (h : ∀ e ∈ s.money, e.kind < 5) (i : Nat) : (schM s i).account = balance s i := by
  rw [balance_eq, ← balL_eq i s.money h]
  unfold MS.account schM
  simp only [sumOf_eq]
  rfl
theorem SInv.kinds {s : SS} (I : SInv s) : ∀ e ∈ s.money, e.kind < 5 := fun e he => (I.mon e he).2
theorem sum_schools {n k : Nat} : ∀ (l : List Vbdbam.Entry), (∀ e ∈ l, e.school < n) → ((List.range n).map fun i => sumL l i k).sum = ((l.filter fun e => e.kind == k).map fun e => e.amount).sum
  | [], _ => sum_zero fun x hx => by
      obtain ⟨j, _, rfl⟩ := List.mem_map.mp hx
      rfl
  | e :: l, h => by
    have ih := sum_schools (n := n) (k := k) l fun x hx => h x (by simp [hx])
    have e1 : (fun i => sumL (e :: l) i k) = fun i => (if e.school = i ∧ e.kind = k then e.amount else 0) + sumL l i k := by
      funext i
      exact sumL_cons e l i k
    rw [e1, sum_range_add, ih, List.filter_cons]
    by_cases c : e.kind = k
    · rw [if_pos (by simp [c]), List.map_cons, List.sum_cons]
      congr 1
      have e2 : ∀ (n : Nat) (a b : Nat), a < n → ((List.range n).map fun i => if a = i then b else 0).sum = b := by
        intro n a b
        induction n with
        | zero => intro z; omega
        | succ n ih =>
          intro z
          rw [List.range_succ, List.map_append, List.sum_append]
          by_cases q : a = n
          · subst q
            have : ((List.range a).map fun i => if a = i then b else 0).sum = 0 := sum_zero fun x hx => by
              obtain ⟨j, hj, rfl⟩ := List.mem_map.mp hx
              have := List.mem_range.mp hj
              rw [if_neg (by omega)]
            rw [this]; simp
          · rw [ih (by omega)]
            simp [q]
      have e3 : (fun i => if e.school = i ∧ e.kind = k then e.amount else 0) = fun i => if e.school = i then e.amount else 0 := by
        funext i
        simp [c]
      rw [e3]
      exact e2 n e.school e.amount (h e (by simp))
    · rw [if_neg (by simpa using c)]
      have e3 : (fun i => if e.school = i ∧ e.kind = k then e.amount else 0) = fun _ => 0 := by
        funext i
        simp [c]
      rw [e3]
      have : ((List.range n).map fun _ => (0 : Nat)).sum = 0 := sum_zero fun x hx => by
        obtain ⟨_, _, rfl⟩ := List.mem_map.mp hx
        rfl
      omega

/-! ### what an answer comes to -/
def outcome (m : M) : Re → M × List Int
  | .error e => (m, [e])
  | .ok x => x
theorem answerM_eq (m : M) (c : Int) (ns row : List Int) : answerM m c ns row = outcome m (callM m c ns row) := by
  unfold answerM outcome
  cases callM m c ns row <;> rfl
structure Ok1 (s : SS) (r : Re) (x : SS × Vbdbam.Ans) : Prop where
  eq : outcome (mir s) r = (mir x.1, flatAns x.2)
  inv : SInv x.1
theorem Ok1.no {s : SS} (I : SInv s) (e : Int) : Ok1 s (.error e) (Vbdbam.no s e) := ⟨rfl, I⟩
theorem Ok1.ref {s : SS} (I : SInv s) {b : Bool} {c : Prop} [Decidable c] {e : Int} {r : Re} {x : SS × Vbdbam.Ans} (h : b = decide c) (k : ¬ c → Ok1 s r x) : Ok1 s (refuse b e r) (if c then Vbdbam.no s e else x) := by
  unfold refuse
  by_cases hc : c
  · rw [if_pos hc, if_pos (by rw [h]; exact decide_eq_true hc)]
    exact Ok1.no I e
  · rw [if_neg hc, if_neg (by rw [h, decide_eq_false hc]; decide)]
    exact k hc
theorem Ok1.school {s : SS} (I : SInv s) {n : Int} {f : Nat → MS → Re} {g : Nat → Vbdbam.School → SS × Vbdbam.Ans} (k : ∀ i, i < s.schools.length → placeOf s n = some i → ((schoolAt s i).id : Int) = n → Ok1 s (f i (schM s i)) (g i (schoolAt s i))) : Ok1 s (onS (mir s) n f) (Vbdbam.onSchool s n g) := by
  unfold onS Vbdbam.onSchool
  rw [mir_find]
  cases e : placeOf s n with
  | none => exact Ok1.no I (-5)
  | some i =>
    obtain ⟨h1, h2⟩ := placeOf_lt e
    show Ok1 s (f i ((mir s).sch i)) _
    rw [mir_sch s i h1]
    exact k i h1 e h2
theorem Ok1.closed {s : SS} (I : SInv s) {r : Re} {x : SS × Vbdbam.Ans} (k : s.closed = false → Ok1 s r x) : Ok1 s (refuse (mir s).closed (-4) r) (Vbdbam.unlessClosed s x) := by
  unfold Vbdbam.unlessClosed
  refine Ok1.ref I (c := s.closed = true) ?_ fun h => k (by simpa using h)
  show s.closed = _
  cases s.closed <;> rfl
theorem find_findIdx {α : Type} (p : α → Bool) (z : α) : ∀ (l : List α), l.find? p = (l.findIdx? p).map fun i => l.getD i z
  | [] => rfl
  | a :: r => by
    rw [List.find?_cons, List.findIdx?_cons]
    by_cases h : p a = true
    · rw [h]; rfl
    · have h' : p a = false := by simpa using h
      rw [h']
      rw [find_findIdx p z r]
      cases r.findIdx? p <;> rfl
theorem Ok1.offer {s : SS} (I : SInv s) {n : Int} {f : MO → Re} {g : Vbdbam.Offer → SS × Vbdbam.Ans} (k : ∀ o, o ∈ s.offers → Ok1 s (f (offM s o)) (g o)) : Ok1 s (onO (mir s) n f) (Vbdbam.onOffer s n g) := by
  unfold onO Vbdbam.onOffer M.findO M.off
  show Ok1 s (match (s.offers.map (offM s)).findIdx? (fun o => o.number == n) with | none => _ | some i => f ((s.offers.map (offM s)).getD i MO.zero)) _
  rw [List.findIdx?_map, find_findIdx _ (⟨0, 0, 0⟩ : Vbdbam.Offer) s.offers]
  have e : ((fun o : MO => o.number == n) ∘ offM s) = fun x : Vbdbam.Offer => (x.number : Int) == n := rfl
  rw [e]
  cases q : s.offers.findIdx? fun x => (x.number : Int) == n with
  | none => exact Ok1.no I (-5)
  | some i =>
    obtain ⟨h1, _, _⟩ := List.findIdx?_eq_some_iff_getElem.mp q
    have e1 : (s.offers.map (offM s)).getD i MO.zero = offM s (s.offers.getD i ⟨0, 0, 0⟩) := by
      rw [List.getD_eq_getElem?_getD, List.getElem?_map, List.getD_eq_getElem?_getD, List.getElem?_eq_getElem h1]
      rfl
    show Ok1 s (f _) (g _)
    rw [e1]
    apply k
    rw [List.getD_eq_getElem?_getD, List.getElem?_eq_getElem h1]
    exact List.getElem_mem h1
theorem outside_is (lo hi : Nat) (n : Int) : outside lo hi n = decide (Vbdbam.inside n lo hi = false) := by
  unfold outside Vbdbam.inside
  cases (decide ((lo : Int) ≤ n) && decide (n ≤ (hi : Int))) <;> rfl
theorem inside_of {lo hi : Nat} {n : Int} (h : ¬ Vbdbam.inside n lo hi = false) : (lo : Int) ≤ n ∧ n ≤ hi ∧ ((n.toNat : Nat) : Int) = n := by
  unfold Vbdbam.inside at h
  have h' : (decide ((lo : Int) ≤ n) && decide (n ≤ (hi : Int))) = true := by
    cases q : (decide ((lo : Int) ≤ n) && decide (n ≤ (hi : Int))) with
    | true => rfl
    | false => exact absurd q h
  rw [Bool.and_eq_true] at h'
  have a := of_decide_eq_true h'.1
  have b := of_decide_eq_true h'.2
  exact ⟨a, b, by omega⟩

/-! ### a state with changed schools -/
theorem ids_of {s t : SS} (I : SInv s) (hl : t.schools.length = s.schools.length) (h : ∀ j, j < s.schools.length → idAt t j = idAt s j) : (t.schools.map fun x => x.id).Nodup := by
  have e : t.schools.map (fun x => x.id) = s.schools.map fun x => x.id := by
    apply List.ext_getElem?
    intro j
    by_cases hj : j < s.schools.length
    · rw [idAt_get t j (by rw [hl]; exact hj), idAt_get s j hj, h j hj]
    · rw [List.getElem?_eq_none (by rw [List.length_map, hl]; omega), List.getElem?_eq_none (by rw [List.length_map]; omega)]
  rw [e]
  exact I.ids
theorem offs_same {s t : SS} {l : List Vbdbam.Offer} (h : ∀ j, j < s.schools.length → idAt t j = idAt s j) (ho : ∀ o ∈ l, o.school < s.schools.length) : l.map (offM t) = l.map (offM s) := by
  apply List.map_congr_left
  intro o q
  unfold offM
  rw [h o.school (ho o q)]
theorem fee_cast (s : SS) : (mir s).rules.fee = ((s.rules.fee : Nat) : Int) := rfl
theorem mir_owed {s : SS} (I : SInv s) (n : Nat) : (mir s).rules.owed (n : Int) = ((owed s.rules n : Nat) : Int) := by
  unfold MR.owed owed
  show (((s.rules.judges : Nat) : Int) * (n : Int) + ((s.rules.per : Nat) : Int) - 1) / ((s.rules.per : Nat) : Int) = _
  have h := I.rb.per1
  have e : ((s.rules.judges : Nat) : Int) * (n : Int) + ((s.rules.per : Nat) : Int) - 1 = ((s.rules.judges * n + (s.rules.per - 1) : Nat) : Int) := by
    rw [Int.natCast_add, Int.natCast_mul]
    omega
  rw [e]
  exact (Int.natCast_ediv _ _).symm
theorem pct_is (start day : Nat) : ∀ (l : List (Nat × Nat)), pctOf ((start : Int) - (day : Int)) (flatB l) = ((((l.find? fun p => decide (day + p.1 ≤ start)).map fun p => p.2).getD 0 : Nat) : Int)
  | [] => rfl
  | p :: r => by
    show (if (p.1 : Int) ≤ (start : Int) - (day : Int) then (p.2 : Int) else pctOf _ (flatB r)) = _
    rw [List.find?_cons]
    by_cases h : day + p.1 ≤ start
    · rw [if_pos (by omega), decide_eq_true h]
      rfl
    · rw [if_neg (by omega), decide_eq_false h]
      exact pct_is start day r
theorem mir_percent (s : SS) : (mir s).rules.percent (mir s).day = ((percent s.rules s.day : Nat) : Int) := pct_is s.rules.start s.day s.rules.back
theorem mir_given (s : SS) : (mir s).rules.givenBack (mir s).day = ((s.rules.fee * percent s.rules s.day / 100 : Nat) : Int) := by
  unfold MR.givenBack
  rw [mir_percent, fee_cast, ← Int.natCast_mul, Nat.mul_comm]
  exact (Int.natCast_ediv _ _).symm
theorem mir_missing {s : SS} (I : SInv s) (i : Nat) : (mir s).rules.missing (schM s i) = ((missing s i : Nat) : Int) := by
  unfold MR.missing missing
  show (if (mir s).rules.owed ((schoolAt s i).has_ : Int) - ((schoolAt s i).judges : Int) > 0 then _ else _) = _
  rw [show (schM s i).has = ((schoolAt s i).has_ : Int) from rfl, show (schM s i).judges = ((schoolAt s i).judges : Int) from rfl, mir_owed I]
  by_cases h : ((owed s.rules (schoolAt s i).has_ : Nat) : Int) - ((schoolAt s i).judges : Int) > 0
  · rw [if_pos h]; omega
  · rw [if_neg h]; omega

theorem pair_eq {a a' : M} {b b' : List Int} (h : a = a') (h' : b = b') : (a, b) = (a', b') := by rw [h, h']
theorem M.ext' {a b : M} (h1 : a.rules = b.rules) (h2 : a.schools = b.schools) (h3 : a.offers = b.offers) (h4 : a.made = b.made) (h5 : a.day = b.day) (h6 : a.closed = b.closed) (h7 : a.entries = b.entries) : a = b := by
  cases a; cases b; cases h1; cases h2; cases h3; cases h4; cases h5; cases h6; cases h7; rfl
theorem MS.ext' {a b : MS} (h1 : a.number = b.number) (h2 : a.wanted = b.wanted) (h3 : a.has = b.has) (h4 : a.judges = b.judges) (h5 : a.paid = b.paid) (h6 : a.fees = b.fees) (h7 : a.given = b.given) (h8 : a.fines = b.fines) (h9 : a.out = b.out) : a = b := by
  cases a; cases b; cases h1; cases h2; cases h3; cases h4; cases h5; cases h6; cases h7; cases h8; cases h9; rfl
/-- a state whose one school changed and whose offers are some of the old ones -/
theorem SInv.change {s t : SS} (I : SInv s) (i : Nat) (hr : t.rules = s.rules) (hl : t.schools.length = s.schools.length) (hid : ∀ j, j < s.schools.length → idAt t j = idAt s j)
    (ho : ∀ o ∈ t.offers, o ∈ s.offers) (hp : t.offers.Pairwise fun a b => a.number < b.number) (hn : t.next = s.next)
    (hf : ∀ j, j < s.schools.length → load t j ≤ (schoolAt t j).wanted) (hw : ∀ j, j < s.schools.length → (schoolAt t j).wanted ≤ 20) (hu : used t ≤ used s) (hm : ∀ e ∈ t.money, e ∈ s.money ∨ (e.school < s.schools.length ∧ e.kind < 5)) : SInv t where
  rb := by rw [hr]; exact I.rb
  ids := ids_of I hl hid
  few := by rw [hl]; exact I.few
  fit := fun j hj => hf j (by omega)
  small := fun j hj => hw j (by omega)
  offS := fun o q => by rw [hl]; exact I.offS o (ho o q)
  offN := hp
  offL := fun o q => by rw [hn]; exact I.offL o (ho o q)
  room := by rw [hr]; exact Nat.le_trans hu I.room
  mon := fun e he => by
    rw [hl]
    rcases hm e he with q | q
    · exact I.mon e q
    · exact q
end Eh

-- EhM5
set_option Elab.async false
set_option linter.all false
namespace Eh
open Vbdbam (Bytes schoolAt setSchool offersTo load used waits nextSchool offerTo offersMade gone lapsed balance sumOf owed percent swings missing finesOf queueFrom idAt placeOf total)
open VbdbamNeutral (flatAns)

theorem used_le {s t : SS} (hl : t.schools.length = s.schools.length) (h : ∀ j, j < s.schools.length → (schoolAt t j).has_ ≤ (schoolAt s j).has_) (ho : t.offers.length ≤ s.offers.length) : used t ≤ used s := by
  unfold used
  rw [has_sum, has_sum, hl]
  have := sum_le_of (l := List.range s.schools.length) (f := fun i => (schoolAt t i).has_) (g := fun i => (schoolAt s i).has_) fun i hi => h i (List.mem_range.mp hi)
  omega

/-! ### one school's numbers changed, offers as they were, money as it was -/
theorem put_is {s : SS} (I : SInv s) {i : Nat} (hi : i < s.schools.length) {f : Vbdbam.School → Vbdbam.School} {g : MS → MS} (hid : ∀ x, (f x).id = x.id) (hh : ∀ x, (f x).has_ = x.has_) (hw : load s i ≤ (f (schoolAt s i)).wanted) (hw2 : (f (schoolAt s i)).wanted ≤ 20)
    (hg : g (schM s i) = { schM s i with wanted := ((f (schoolAt s i)).wanted : Int), judges := ((f (schoolAt s i)).judges : Int) }) :
    (mir s).setS i g = mir { s with schools := setSchool s i f } ∧ SInv { s with schools := setSchool s i f } := by
  have hl : ({ s with schools := setSchool s i f } : SS).schools.length = s.schools.length := setSchool_len s i f
  have at_ : ∀ j, j < s.schools.length → schoolAt { s with schools := setSchool s i f } j = if j = i then f (schoolAt s j) else schoolAt s j := fun j hj => setSchool_at (s := s) (t := { s with schools := setSchool s i f }) rfl j hj
  generalize ht : ({ s with schools := setSchool s i f } : SS) = t at hl at_
  have e1 : t.rules = s.rules := by rw [← ht]
  have e2 : t.offers = s.offers := by rw [← ht]
  have e3 : t.next = s.next := by rw [← ht]
  have e4 : t.day = s.day := by rw [← ht]
  have e5 : t.money = s.money := by rw [← ht]
  have e6 : t.closed = s.closed := by rw [← ht]
  have id_ : ∀ j, j < s.schools.length → idAt t j = idAt s j := fun j hj => by
    unfold idAt
    rw [at_ j hj]
    by_cases c : j = i
    · rw [if_pos c, hid]
    · rw [if_neg c]
  have ot : ∀ j, offersTo t j = offersTo s j := fun j => by unfold offersTo; rw [e2]
  refine ⟨?_, I.change i e1 hl id_ (fun o h => by rw [← e2]; exact h) (by rw [e2]; exact I.offN) e3 (fun j hj => ?_) (fun j hj => ?_) (used_le hl (fun j hj => ?_) (by rw [e2]; exact Nat.le_refl _)) fun e h => .inl (by rw [← e5]; exact h)⟩
  · rw [setS_of hi]
    refine M.ext' ?_ ?_ ?_ ?_ ?_ ?_ ?_
    · show mirR s.rules = mirR t.rules; rw [e1]
    · show (schs s).set i _ = schs t
      rw [schs_set (s := s) (t := t) (i := i) hl hi]
      · congr 1
        rw [hg]
        unfold schM
        rw [at_ i hi, if_pos rfl, hid, hh, sumOf_same e5, sumOf_same e5, sumOf_same e5, sumOf_same e5, sumOf_same e5]
      · intro j hj hne
        unfold schM
        rw [at_ j hj, if_neg hne, sumOf_same e5, sumOf_same e5, sumOf_same e5, sumOf_same e5, sumOf_same e5]
    · show s.offers.map (offM s) = t.offers.map (offM t)
      rw [e2, offs_same id_ I.offS]
    · show ((s.next : Nat) : Int) = ((t.next : Nat) : Int); rw [e3]
    · show ((s.day : Nat) : Int) = ((t.day : Nat) : Int); rw [e4]
    · show s.closed = t.closed; rw [e6]
    · show ((s.money.length : Nat) : Int) = ((t.money.length : Nat) : Int); rw [e5]
  · have := I.fit j hj
    unfold load at this hw ⊢
    rw [ot, at_ j hj]
    by_cases c : j = i
    · subst c; rw [if_pos rfl, hh]; exact hw
    · rw [if_neg c]; exact this
  · rw [at_ j hj]
    by_cases c : j = i
    · subst c; rw [if_pos rfl]; exact hw2
    · rw [if_neg c]; exact I.small j hj
  · rw [at_ j hj]
    by_cases c : j = i
    · rw [if_pos c, hh]; exact Nat.le_refl _
    · rw [if_neg c]; exact Nat.le_refl _

theorem want_is {s : SS} (I : SInv s) (n w : Int) : Ok1 s (wantM (mir s) n w) (Vbdbam.step s (.want n w)) := by
  unfold wantM
  show Ok1 s _ (Vbdbam.onSchool s n fun i _ => _)
  refine Ok1.school I fun i hi _ _ => ?_
  refine Ok1.ref I (outside_is 0 20 w) fun hw => ?_
  obtain ⟨w1, w2, w3⟩ := inside_of hw
  refine Ok1.closed I fun _ => ?_
  refine Ok1.ref I (c := w < ((load s i : Nat) : Int)) (by rw [mir_loadS I hi]) fun hl => ?_
  have h := put_is I hi (f := fun x => { x with wanted := w.toNat }) (g := fun x => { x with wanted := w }) (fun _ => rfl) (fun _ => rfl) (by show load s i ≤ w.toNat; omega) (by show w.toNat ≤ 20; omega) (MS.ext' rfl (show w = ((w.toNat : Nat) : Int) from w3.symm) rfl rfl rfl rfl rfl rfl rfl)
  refine ⟨pair_eq h.1 ?_, h.2⟩
  rw [mir_loadS I hi]
  rfl
theorem bring_is {s : SS} (I : SInv s) (n j : Int) : Ok1 s (bringM (mir s) n j) (Vbdbam.step s (.bring n j)) := by
  unfold bringM
  show Ok1 s _ (Vbdbam.onSchool s n fun i _ => _)
  refine Ok1.school I fun i hi _ _ => ?_
  refine Ok1.ref I (outside_is 0 99 j) fun hw => ?_
  obtain ⟨w1, w2, w3⟩ := inside_of hw
  refine Ok1.closed I fun _ => ?_
  have h := put_is I hi (f := fun x => { x with judges := j.toNat }) (g := fun x => { x with judges := j }) (fun _ => rfl) (fun _ => rfl) (I.fit i hi) (I.small i hi) (MS.ext' rfl rfl rfl (show j = ((j.toNat : Nat) : Int) from w3.symm) rfl rfl rfl rfl rfl)
  refine ⟨pair_eq h.1 ?_, h.2⟩
  rw [show (schM s i).has = (((schoolAt s i).has_ : Nat) : Int) from rfl, mir_owed I]
  rfl
theorem decline_is {s : SS} (I : SInv s) (n : Int) : Ok1 s (declineM (mir s) n) (Vbdbam.step s (.decline n)) := by
  unfold declineM
  show Ok1 s _ (Vbdbam.onOffer s n fun x => _)
  refine Ok1.offer I fun o ho => ?_
  refine Ok1.closed I fun _ => ?_
  have hl := I.offS o ho
  have e0 : (offM s o).school = ((idAt s o.school : Nat) : Int) := rfl
  unfold onS
  rw [e0, mir_find, placeOf_id I hl]
  show Ok1 s (.ok (((mir s).takeAway o.number).setS o.school (fun s => { s with wanted := s.wanted - 1 }), [((mir s).sch o.school).wanted - 1, ((mir s).sch o.school).number])) _
  rw [mir_sch s _ hl]
  have hp := I.wanted_pos ho
  refine ⟨pair_eq ?_ ?_, I.gone ho⟩
  · have hd := decS_is I ho
    unfold decS at hd
    rw [e0, schs_find, placeOf_id I hl] at hd
    refine M.ext' rfl ?_ ?_ rfl rfl rfl rfl
    · show (schs s).set o.school { (mir s).sch o.school with wanted := ((mir s).sch o.school).wanted - 1 } = _
      exact hd
    · show (s.offers.map (offM s)).filter _ = ((gone s o).offers).map (offM (gone s o))
      rw [gone_offers, offs_same (s := s) (t := gone s o) (fun j hj => gone_id hj) fun x hx => I.offS x (List.mem_filter.mp hx).1, List.filter_map]
      congr 1
      apply List.filter_congr
      intro x _
      show (!(((x.number : Nat) : Int) == ((o.number : Nat) : Int))) = (x.number != o.number)
      rw [int_beq]
      rfl
  · show [((schoolAt s o.school).wanted : Int) - 1, _] = [(((schoolAt s o.school).wanted - 1 : Nat) : Int), _]
    have : ((schoolAt s o.school).wanted : Int) - 1 = (((schoolAt s o.school).wanted - 1 : Nat) : Int) := by omega
    rw [this]
    rfl

/-! ### one school changed, entries of money added -/
theorem takeAway_is {s : SS} (o : Vbdbam.Offer) : ((mir s).offers).filter (fun x => !(x.number == ((o.number : Nat) : Int))) = (s.offers.filter fun y => y.number != o.number).map (offM s) := by
  show (s.offers.map (offM s)).filter _ = _
  rw [List.filter_map]
  congr 1
  apply List.filter_congr
  intro x _
  show (!(((x.number : Nat) : Int) == ((o.number : Nat) : Int))) = (x.number != o.number)
  rw [int_beq]
  rfl
theorem accept_is {s : SS} (I : SInv s) (n : Int) : Ok1 s (acceptM (mir s) n) (Vbdbam.step s (.accept n)) := by
  unfold acceptM
  show Ok1 s _ (Vbdbam.onOffer s n fun x => _)
  refine Ok1.offer I fun o ho => ?_
  refine Ok1.closed I fun _ => ?_
  refine Ok1.ref I (c := Vbdbam.MOSTMONEY ≤ s.money.length) (decide_eq_decide.mpr (by show ((s.money.length : Nat) : Int) + 1 > 400 ↔ 400 ≤ s.money.length; omega)) fun _ => ?_
  have hl := I.offS o ho
  have e0 : (offM s o).school = ((idAt s o.school : Nat) : Int) := rfl
  unfold onS
  rw [e0, mir_find, placeOf_id I hl]
  show Ok1 s (.ok ({ ((mir s).takeAway o.number).setS o.school (fun s' => { s' with has := s'.has + 1, fees := s'.fees + (mir s).rules.fee }) with entries := (mir s).entries + 1 }, [((mir s).sch o.school).has + 1, ((mir s).sch o.school).number])) (_, _)
  rw [mir_sch s _ hl, fee_cast]
  generalize ht : ({ s with offers := s.offers.filter (fun y => y.number != o.number), schools := setSchool s o.school (fun y => { y with has_ := y.has_ + 1 }), money := s.money ++ [⟨o.school, 1, s.rules.fee⟩] } : SS) = t
  have e1 : t.rules = s.rules := by rw [← ht]
  have e2 : t.offers = s.offers.filter (fun y => y.number != o.number) := by rw [← ht]
  have e3 : t.next = s.next := by rw [← ht]
  have e4 : t.day = s.day := by rw [← ht]
  have e5 : t.money = s.money ++ [⟨o.school, 1, s.rules.fee⟩] := by rw [← ht]
  have e6 : t.closed = s.closed := by rw [← ht]
  have e7 : t.schools = setSchool s o.school (fun y => { y with has_ := y.has_ + 1 }) := by rw [← ht]
  have hlen : t.schools.length = s.schools.length := by rw [e7]; exact setSchool_len _ _ _
  have at_ : ∀ j, j < s.schools.length → schoolAt t j = if j = o.school then { schoolAt s j with has_ := (schoolAt s j).has_ + 1 } else schoolAt s j := fun j hj => setSchool_at e7 j hj
  have id_ : ∀ j, j < s.schools.length → idAt t j = idAt s j := fun j hj => by
    unfold idAt
    rw [at_ j hj]
    by_cases c : j = o.school
    · rw [if_pos c]
    · rw [if_neg c]
  have hI : SInv t := by
    refine I.change o.school e1 hlen id_ (fun x h => by rw [e2] at h; exact (List.mem_filter.mp h).1) (by rw [e2]; exact I.offN.filter _) e3 (fun j hj => ?_) (fun j hj => ?_) ?_ fun e h => ?_
    · have f := I.fit j hj
      unfold load at f ⊢
      rw [at_ j hj]
      by_cases c : j = o.school
      · have l := away_lt (t := t) ho e2
        rw [← c] at l
        rw [if_pos c]
        show (schoolAt s j).has_ + 1 + _ ≤ (schoolAt s j).wanted
        omega
      · have := away_le e2 j
        rw [if_neg c]
        omega
    · rw [at_ j hj]
      by_cases c : j = o.school
      · rw [if_pos c]; exact I.small j hj
      · rw [if_neg c]; exact I.small j hj
    · unfold used
      have h1 : ((List.range s.schools.length).map fun j => (schoolAt t j).has_).sum = ((List.range s.schools.length).map fun j => (schoolAt s j).has_ + if j = o.school then 1 else 0).sum := by
        congr 1
        apply List.map_congr_left
        intro j hj
        rw [at_ j (List.mem_range.mp hj)]
        by_cases c : j = o.school
        · rw [if_pos c, if_pos c]
        · rw [if_neg c, if_neg c]; omega
      rw [has_sum, has_sum, hlen, h1, sum_range_add, sum_range_ite _ _ hl, e2]
      have : (s.offers.filter fun y => y.number != o.number).length + 1 ≤ (s.offers.filter fun _ => true).length := filter_len_lt (fun _ _ _ => rfl) ho rfl (by simp)
      rw [List.filter_eq_self.mpr (fun _ _ => rfl)] at this
      omega
    · rw [e5] at h
      rcases List.mem_append.mp h with q | q
      · exact .inl q
      · refine .inr ?_
        have : e = ⟨o.school, 1, s.rules.fee⟩ := by simpa using q
        rw [this]
        exact ⟨hl, (by decide : (1 : Nat) < 5)⟩
  refine ⟨pair_eq ?_ ?_, hI⟩
  · refine M.ext' ?_ ?_ ?_ ?_ ?_ ?_ ?_
    · show mirR s.rules = mirR t.rules; rw [e1]
    · show (schs s).set o.school { (mir s).sch o.school with has := ((mir s).sch o.school).has + 1, fees := ((mir s).sch o.school).fees + _ } = schs t
      rw [schs_set (s := s) (t := t) (i := o.school) hlen hl, mir_sch s _ hl]
      · congr 1
        unfold schM
        rw [at_ _ hl, if_pos rfl, sumOf_add e5, sumOf_add e5, sumOf_add e5, sumOf_add e5, sumOf_add e5]
        simp
      · intro j hj hne
        have hne' : ¬ o.school = j := fun z => hne z.symm
        unfold schM
        rw [at_ j hj, if_neg hne, sumOf_add e5, sumOf_add e5, sumOf_add e5, sumOf_add e5, sumOf_add e5]
        simp [hne']
    · show ((mir s).offers).filter _ = t.offers.map (offM t)
      rw [takeAway_is, e2, offs_same (s := s) (t := t) id_ fun x hx => I.offS x (List.mem_filter.mp hx).1]
    · show ((s.next : Nat) : Int) = ((t.next : Nat) : Int); rw [e3]
    · show ((s.day : Nat) : Int) = ((t.day : Nat) : Int); rw [e4]
    · show s.closed = t.closed; rw [e6]
    · show ((s.money.length : Nat) : Int) + 1 = ((t.money.length : Nat) : Int); rw [e5, List.length_append]; rfl
  · show [((schoolAt s o.school).has_ : Int) + 1, ((idAt s o.school : Nat) : Int)] = [(((schoolAt s o.school).has_ + 1 : Nat) : Int), ((idAt s o.school : Nat) : Int)]
    rw [Int.natCast_add]
    rfl
theorem drop_is {s : SS} (I : SInv s) (n k : Int) : Ok1 s (dropM (mir s) n k) (Vbdbam.step s (.drop n k)) := by
  unfold dropM
  show Ok1 s _ (Vbdbam.onSchool s n fun i x => _)
  refine Ok1.school I fun i hi _ _ => ?_
  refine Ok1.ref I (outside_is 1 60 k) fun hw => ?_
  obtain ⟨w1, w2, w3⟩ := inside_of hw
  refine Ok1.closed I fun _ => ?_
  refine Ok1.ref I (c := ((schoolAt s i).has_ : Int) < k) rfl fun hk => ?_
  refine Ok1.ref I (c := Vbdbam.MOSTMONEY ≤ s.money.length) (decide_eq_decide.mpr (by show ((s.money.length : Nat) : Int) + 1 > 400 ↔ 400 ≤ s.money.length; omega)) fun _ => ?_
  rw [mir_given, mir_percent]
  have eb : k * ((s.rules.fee * percent s.rules s.day / 100 : Nat) : Int) = ((k.toNat * (s.rules.fee * percent s.rules s.day / 100) : Nat) : Int) := by
    rw [Int.natCast_mul, w3]
  rw [eb]
  generalize (k.toNat * (s.rules.fee * percent s.rules s.day / 100) : Nat) = b
  show Ok1 s _ (({ s with schools := setSchool s i (fun y => { y with has_ := y.has_ - k.toNat, wanted := y.wanted - k.toNat }), money := s.money ++ [⟨i, 2, b⟩] } : SS), _)
  generalize ht : ({ s with schools := setSchool s i (fun y => { y with has_ := y.has_ - k.toNat, wanted := y.wanted - k.toNat }), money := s.money ++ [⟨i, 2, b⟩] } : SS) = t
  have e1 : t.rules = s.rules := by rw [← ht]
  have e2 : t.offers = s.offers := by rw [← ht]
  have e3 : t.next = s.next := by rw [← ht]
  have e4 : t.day = s.day := by rw [← ht]
  have e5 : t.money = s.money ++ [⟨i, 2, b⟩] := by rw [← ht]
  have e6 : t.closed = s.closed := by rw [← ht]
  have e7 : t.schools = setSchool s i (fun y => { y with has_ := y.has_ - k.toNat, wanted := y.wanted - k.toNat }) := by rw [← ht]
  have hlen : t.schools.length = s.schools.length := by rw [e7]; exact setSchool_len _ _ _
  have at_ : ∀ j, j < s.schools.length → schoolAt t j = if j = i then { schoolAt s j with has_ := (schoolAt s j).has_ - k.toNat, wanted := (schoolAt s j).wanted - k.toNat } else schoolAt s j := fun j hj => setSchool_at e7 j hj
  have id_ : ∀ j, j < s.schools.length → idAt t j = idAt s j := fun j hj => by
    unfold idAt
    rw [at_ j hj]
    by_cases c : j = i
    · rw [if_pos c]
    · rw [if_neg c]
  have ot : ∀ j, offersTo t j = offersTo s j := fun j => by unfold offersTo; rw [e2]
  have hI : SInv t := by
    refine I.change i e1 hlen id_ (fun x h => by rw [e2] at h; exact h) (by rw [e2]; exact I.offN) e3 (fun j hj => ?_) (fun j hj => ?_) (used_le hlen (fun j hj => ?_) (by rw [e2]; exact Nat.le_refl _)) fun e h => ?_
    · have f := I.fit j hj
      unfold load at f ⊢
      rw [at_ j hj, ot]
      by_cases c : j = i
      · subst c
        rw [if_pos rfl]
        show (schoolAt s j).has_ - k.toNat + _ ≤ (schoolAt s j).wanted - k.toNat
        omega
      · rw [if_neg c]; exact f
    · have f := I.small j hj
      rw [at_ j hj]
      by_cases c : j = i
      · rw [if_pos c]; show (schoolAt s j).wanted - k.toNat ≤ 20; omega
      · rw [if_neg c]; exact f
    · rw [at_ j hj]
      by_cases c : j = i
      · rw [if_pos c]; show (schoolAt s j).has_ - k.toNat ≤ _; omega
      · rw [if_neg c]; exact Nat.le_refl _
    · rw [e5] at h
      rcases List.mem_append.mp h with q | q
      · exact .inl q
      · refine .inr ?_
        have : e = ⟨i, 2, b⟩ := by simpa using q
        rw [this]
        exact ⟨hi, (by decide : (2 : Nat) < 5)⟩
  have f := I.fit i hi
  unfold load at f
  refine ⟨pair_eq ?_ rfl, hI⟩
  refine M.ext' ?_ ?_ ?_ ?_ ?_ ?_ ?_
  · show mirR s.rules = mirR t.rules; rw [e1]
  · rw [setS_of hi]
    show (schs s).set i _ = schs t
    rw [schs_set (s := s) (t := t) (i := i) hlen hi]
    · congr 1
      refine MS.ext' ?_ ?_ ?_ ?_ ?_ ?_ ?_ ?_ ?_
      · show ((schoolAt s i).id : Int) = ((schoolAt t i).id : Int); rw [at_ _ hi, if_pos rfl]
      · show ((schoolAt s i).wanted : Int) - k = ((schoolAt t i).wanted : Int); rw [at_ _ hi, if_pos rfl]; show _ = (((schoolAt s i).wanted - k.toNat : Nat) : Int); omega
      · show ((schoolAt s i).has_ : Int) - k = ((schoolAt t i).has_ : Int); rw [at_ _ hi, if_pos rfl]; show _ = (((schoolAt s i).has_ - k.toNat : Nat) : Int); omega
      · show ((schoolAt s i).judges : Int) = ((schoolAt t i).judges : Int); rw [at_ _ hi, if_pos rfl]
      · show ((sumOf s i 0 : Nat) : Int) = ((sumOf t i 0 : Nat) : Int); rw [sumOf_add e5]; simp
      · show ((sumOf s i 1 : Nat) : Int) = ((sumOf t i 1 : Nat) : Int); rw [sumOf_add e5]; simp
      · show ((sumOf s i 2 : Nat) : Int) + (b : Int) = ((sumOf t i 2 : Nat) : Int); rw [sumOf_add e5]; simp
      · show ((sumOf s i 3 : Nat) : Int) = ((sumOf t i 3 : Nat) : Int); rw [sumOf_add e5]; simp
      · show ((sumOf s i 4 : Nat) : Int) = ((sumOf t i 4 : Nat) : Int); rw [sumOf_add e5]; simp
    · intro j hj hne
      have hne' : ¬ i = j := fun z => hne z.symm
      unfold schM
      rw [at_ j hj, if_neg hne, sumOf_add e5, sumOf_add e5, sumOf_add e5, sumOf_add e5, sumOf_add e5]
      simp [hne']
  · show s.offers.map (offM s) = t.offers.map (offM t)
    rw [e2, offs_same id_ I.offS]
  · show ((s.next : Nat) : Int) = ((t.next : Nat) : Int); rw [e3]
  · show ((s.day : Nat) : Int) = ((t.day : Nat) : Int); rw [e4]
  · show s.closed = t.closed; rw [e6]
  · show ((s.money.length : Nat) : Int) + 1 = ((t.money.length : Nat) : Int); rw [e5, List.length_append]; rfl
/-- money alone -/
theorem entry_is {s : SS} (I : SInv s) {i : Nat} (hi : i < s.schools.length) (k b : Nat) (hk : k < 5) (g : MS → MS) (hg : ∀ x : MS, g x = { x with paid := x.paid + (if k = 0 then (b : Int) else 0), fees := x.fees + (if k = 1 then (b : Int) else 0), given := x.given + (if k = 2 then (b : Int) else 0), fines := x.fines + (if k = 3 then (b : Int) else 0), out := x.out + (if k = 4 then (b : Int) else 0) }) :
    ({ (mir s).setS i g with entries := (mir s).entries + 1 } : M) = mir { s with money := s.money ++ [⟨i, k, b⟩] } ∧ SInv { s with money := s.money ++ [⟨i, k, b⟩] } := by
  generalize ht : ({ s with money := s.money ++ [⟨i, k, b⟩] } : SS) = t
  have e5 : t.money = s.money ++ [⟨i, k, b⟩] := by rw [← ht]
  have e7 : t.schools = s.schools := by rw [← ht]
  have at_ : ∀ j, schoolAt t j = schoolAt s j := fun j => by unfold schoolAt; rw [e7]
  have hlen : t.schools.length = s.schools.length := by rw [e7]
  have hI : SInv t := by
    rw [← ht]
    refine ⟨I.rb, I.ids, I.few, I.fit, I.small, I.offS, I.offN, I.offL, I.room, fun e h => ?_⟩
    rcases List.mem_append.mp h with q | q
    · exact I.mon e q
    · have : e = ⟨i, k, b⟩ := by simpa using q
      rw [this]
      exact ⟨hi, hk⟩
  refine ⟨?_, hI⟩
  rw [setS_of hi]
  refine M.ext' ?_ ?_ ?_ ?_ ?_ ?_ ?_
  · rw [← ht]; rfl
  · show (schs s).set i (g (schM s i)) = schs t
    rw [schs_set (s := s) (t := t) (i := i) hlen hi]
    · congr 1
      rw [hg]
      unfold schM
      rw [at_, sumOf_add e5, sumOf_add e5, sumOf_add e5, sumOf_add e5, sumOf_add e5]
      have : ∀ (c : Prop) [Decidable c], ((if c then b else 0 : Nat) : Int) = if c then (b : Int) else 0 := fun c _ => by by_cases h : c <;> simp [h]
      simp [this]
    · intro j hj hne
      have hne' : ¬ i = j := fun z => hne z.symm
      unfold schM
      rw [at_, sumOf_add e5, sumOf_add e5, sumOf_add e5, sumOf_add e5, sumOf_add e5]
      simp [hne']
  · rw [← ht]; rfl
  · rw [← ht]; rfl
  · rw [← ht]; rfl
  · rw [← ht]; rfl
  · show ((s.money.length : Nat) : Int) + 1 = ((t.money.length : Nat) : Int); rw [e5, List.length_append]; rfl
theorem pay_is {s : SS} (I : SInv s) (n k : Int) : Ok1 s (payM (mir s) n k) (Vbdbam.step s (.pay n k)) := by
  unfold payM
  show Ok1 s _ (Vbdbam.onSchool s n fun i x => _)
  refine Ok1.school I fun i hi _ _ => ?_
  refine Ok1.ref I (outside_is 1 1000000 k) fun hw => ?_
  obtain ⟨w1, w2, w3⟩ := inside_of hw
  refine Ok1.ref I (c := Vbdbam.MOSTMONEY ≤ s.money.length) (decide_eq_decide.mpr (by show ((s.money.length : Nat) : Int) + 1 > 400 ↔ 400 ≤ s.money.length; omega)) fun _ => ?_
  have h := entry_is I hi 0 k.toNat (by decide) (fun s' => { s' with paid := s'.paid + k }) (fun x => by simp; omega)
  refine ⟨pair_eq h.1 ?_, h.2⟩
  show [_] = [balance { s with money := s.money ++ [⟨i, 0, k.toNat⟩] } i]
  have h2 := account_is h.2.kinds i
  rw [← h2]
  congr 1
  unfold MS.account schM
  show _ + k + _ - _ - _ - _ = _
  rw [sumOf_add (s := s) (t := { s with money := s.money ++ [⟨i, 0, k.toNat⟩] }) rfl, sumOf_add (s := s) (t := { s with money := s.money ++ [⟨i, 0, k.toNat⟩] }) rfl, sumOf_add (s := s) (t := { s with money := s.money ++ [⟨i, 0, k.toNat⟩] }) rfl, sumOf_add (s := s) (t := { s with money := s.money ++ [⟨i, 0, k.toNat⟩] }) rfl, sumOf_add (s := s) (t := { s with money := s.money ++ [⟨i, 0, k.toNat⟩] }) rfl]
  simp
  omega
theorem payout_is {s : SS} (I : SInv s) (n : Int) : Ok1 s (payoutM (mir s) n) (Vbdbam.step s (.payout n)) := by
  unfold payoutM
  show Ok1 s _ (Vbdbam.onSchool s n fun i x => _)
  refine Ok1.school I fun i hi _ _ => ?_
  rw [account_is I.kinds i]
  refine Ok1.ref I (c := balance s i ≤ 0) rfl fun hb => ?_
  refine Ok1.ref I (c := Vbdbam.MOSTMONEY ≤ s.money.length) (decide_eq_decide.mpr (by show ((s.money.length : Nat) : Int) + 1 > 400 ↔ 400 ≤ s.money.length; omega)) fun _ => ?_
  have e : ((balance s i).toNat : Int) = balance s i := by omega
  have h := entry_is I hi 4 (balance s i).toNat (by decide) (fun s' => { s' with out := s'.out + balance s i }) (fun x => by simp; omega)
  exact ⟨pair_eq h.1 rfl, h.2⟩
theorem transfer_is {s : SS} (I : SInv s) (a b : Int) : Ok1 s (transferM (mir s) a b) (Vbdbam.step s (.transfer a b)) := by
  unfold transferM
  show Ok1 s _ (Vbdbam.onSchool s a fun i x => _)
  refine Ok1.school I fun i hi pi ei => ?_
  refine Ok1.school I fun j hj pj ej => ?_
  refine Ok1.ref I (c := i = j) (decide_eq_decide.mpr ⟨fun h => ?_, fun h => ?_⟩) fun hij => ?_
  · rw [h] at pi
    rw [pi] at pj
    exact Option.some.inj pj
  · rw [← ei, ← ej, h]
  refine Ok1.closed I fun _ => ?_
  refine Ok1.ref I (c := (schoolAt s i).has_ = 0) (decide_eq_decide.mpr (by show ((schoolAt s i).has_ : Int) = 0 ↔ _; omega)) fun hh => ?_
  refine Ok1.ref I (c := waits s j = false) (by rw [mir_loadS I hj, mir_waits]; cases waits s j <;> rfl) fun hw => ?_
  refine Ok1.ref I (c := Vbdbam.MOSTMONEY ≤ s.money.length + 1) (decide_eq_decide.mpr (by show ((s.money.length : Nat) : Int) + 2 > 400 ↔ 400 ≤ s.money.length + 1; omega)) fun _ => ?_
  have hw' : load s j < (schoolAt s j).wanted := by
    have : waits s j = true := by simpa using hw
    unfold waits at this
    rw [Bool.and_eq_true] at this
    exact of_decide_eq_true this.1
  show Ok1 s _ (({ ({ s with schools := setSchool s i fun y => { y with has_ := y.has_ - 1, wanted := y.wanted - 1 } } : SS) with schools := setSchool { s with schools := setSchool s i fun y => { y with has_ := y.has_ - 1, wanted := y.wanted - 1 } } j (fun y => { y with has_ := y.has_ + 1 }), money := s.money ++ [⟨i, 2, s.rules.fee⟩, ⟨j, 1, s.rules.fee⟩] } : SS), _)
  have hu0 : ({ s with schools := setSchool s i fun y => { y with has_ := y.has_ - 1, wanted := y.wanted - 1 } } : SS).schools = setSchool s i fun y => { y with has_ := y.has_ - 1, wanted := y.wanted - 1 } := rfl
  have hu1 : ({ s with schools := setSchool s i fun y => { y with has_ := y.has_ - 1, wanted := y.wanted - 1 } } : SS).rules = s.rules := rfl
  have hu2 : ({ s with schools := setSchool s i fun y => { y with has_ := y.has_ - 1, wanted := y.wanted - 1 } } : SS).offers = s.offers := rfl
  have hu3 : ({ s with schools := setSchool s i fun y => { y with has_ := y.has_ - 1, wanted := y.wanted - 1 } } : SS).next = s.next := rfl
  have hu4 : ({ s with schools := setSchool s i fun y => { y with has_ := y.has_ - 1, wanted := y.wanted - 1 } } : SS).day = s.day := rfl
  have hu6 : ({ s with schools := setSchool s i fun y => { y with has_ := y.has_ - 1, wanted := y.wanted - 1 } } : SS).closed = s.closed := rfl
  generalize ({ s with schools := setSchool s i fun y => { y with has_ := y.has_ - 1, wanted := y.wanted - 1 } } : SS) = u at hu0 hu1 hu2 hu3 hu4 hu6
  generalize ht : ({ u with schools := setSchool u j (fun y => { y with has_ := y.has_ + 1 }), money := s.money ++ [⟨i, 2, s.rules.fee⟩, ⟨j, 1, s.rules.fee⟩] } : SS) = t
  have ulen : u.schools.length = s.schools.length := by rw [hu0]; exact setSchool_len _ _ _
  have uat : ∀ k, k < s.schools.length → schoolAt u k = if k = i then { schoolAt s k with has_ := (schoolAt s k).has_ - 1, wanted := (schoolAt s k).wanted - 1 } else schoolAt s k := fun k hk => setSchool_at hu0 k hk
  have e1 : t.rules = s.rules := by rw [← ht]; exact hu1
  have e2 : t.offers = s.offers := by rw [← ht]; exact hu2
  have e3 : t.next = s.next := by rw [← ht]; exact hu3
  have e4 : t.day = s.day := by rw [← ht]; exact hu4
  have e5 : t.money = s.money ++ [⟨i, 2, s.rules.fee⟩, ⟨j, 1, s.rules.fee⟩] := by rw [← ht]
  have e6 : t.closed = s.closed := by rw [← ht]; exact hu6
  have e7 : t.schools = setSchool u j (fun y => { y with has_ := y.has_ + 1 }) := by rw [← ht]
  have hlen : t.schools.length = s.schools.length := by rw [e7, setSchool_len, ulen]
  have at_ : ∀ k, k < s.schools.length → schoolAt t k = if k = j then { schoolAt s k with has_ := (schoolAt s k).has_ + 1 } else if k = i then { schoolAt s k with has_ := (schoolAt s k).has_ - 1, wanted := (schoolAt s k).wanted - 1 } else schoolAt s k := fun k hk => by
    rw [setSchool_at e7 k (by omega), uat k hk]
    by_cases c : k = j
    · have : ¬ k = i := fun z => hij (z ▸ c)
      rw [if_pos c, if_pos c, if_neg this]
    · rw [if_neg c, if_neg c]
  have sum2 : ∀ k q, sumOf t k q = sumOf s k q + (if i = k ∧ 2 = q then s.rules.fee else 0) + (if j = k ∧ 1 = q then s.rules.fee else 0) := fun k q => by
    have h1 := sumOf_add (s := { s with money := s.money ++ [⟨i, 2, s.rules.fee⟩] }) (t := t) (e := ⟨j, 1, s.rules.fee⟩) (by rw [e5]; simp) k q
    have h2 := sumOf_add (s := s) (t := { s with money := s.money ++ [⟨i, 2, s.rules.fee⟩] }) (e := ⟨i, 2, s.rules.fee⟩) rfl k q
    rw [h1, h2]
  have id_ : ∀ k, k < s.schools.length → idAt t k = idAt s k := fun k hk => by
    unfold idAt
    rw [at_ k hk]
    by_cases c : k = j
    · rw [if_pos c]
    · rw [if_neg c]
      by_cases d : k = i
      · rw [if_pos d]
      · rw [if_neg d]
  have ot : ∀ k, offersTo t k = offersTo s k := fun k => by unfold offersTo; rw [e2]
  have fi := I.fit i hi
  have fj := I.fit j hj
  have hI : SInv t := by
    refine I.change i e1 hlen id_ (fun x h => by rw [e2] at h; exact h) (by rw [e2]; exact I.offN) e3 (fun k hk => ?_) (fun k hk => ?_) ?_ fun e h => ?_
    · have f := I.fit k hk
      unfold load at f hw' ⊢
      rw [at_ k hk, ot]
      by_cases c : k = j
      · subst c
        rw [if_pos rfl]
        show (schoolAt s k).has_ + 1 + _ ≤ (schoolAt s k).wanted
        omega
      · rw [if_neg c]
        by_cases d : k = i
        · subst d
          rw [if_pos rfl]
          show (schoolAt s k).has_ - 1 + _ ≤ (schoolAt s k).wanted - 1
          omega
        · rw [if_neg d]; exact f
    · have f := I.small k hk
      rw [at_ k hk]
      by_cases c : k = j
      · rw [if_pos c]; exact f
      · rw [if_neg c]
        by_cases d : k = i
        · rw [if_pos d]; show (schoolAt s k).wanted - 1 ≤ 20; omega
        · rw [if_neg d]; exact f
    · unfold used
      rw [has_sum, has_sum, hlen, e2]
      have h1 : ((List.range s.schools.length).map fun k => (schoolAt t k).has_ + if k = i then 1 else 0).sum = ((List.range s.schools.length).map fun k => (schoolAt s k).has_ + if k = j then 1 else 0).sum := by
        congr 1
        apply List.map_congr_left
        intro k hk
        rw [at_ k (List.mem_range.mp hk)]
        by_cases c : k = j
        · have : ¬ k = i := fun z => hij (z ▸ c)
          rw [if_pos c, if_neg this, if_pos c]
        · rw [if_neg c, if_neg c]
          by_cases d : k = i
          · subst d
            rw [if_pos rfl, if_pos rfl]
            show (schoolAt s k).has_ - 1 + 1 = _
            omega
          · rw [if_neg d, if_neg d]
      rw [sum_range_add, sum_range_add, sum_range_ite _ _ hi, sum_range_ite _ _ hj] at h1
      omega
    · rw [e5] at h
      rcases List.mem_append.mp h with q | q
      · exact .inl q
      · refine .inr ?_
        have : e = ⟨i, 2, s.rules.fee⟩ ∨ e = ⟨j, 1, s.rules.fee⟩ := by simpa using q
        rcases this with r | r
        · rw [r]; exact ⟨hi, (by decide : (2 : Nat) < 5)⟩
        · rw [r]; exact ⟨hj, (by decide : (1 : Nat) < 5)⟩
  refine ⟨pair_eq ?_ ?_, hI⟩
  · refine M.ext' ?_ ?_ ?_ ?_ ?_ ?_ ?_
    · show mirR s.rules = mirR t.rules; rw [e1]
    · have hsj : ((mir s).setS i fun s' => { s' with has := s'.has - 1, wanted := s'.wanted - 1, given := s'.given + (mir s).rules.fee }).sch j = schM s j := by
        rw [setS_of hi]
        show ((schs s).set i _).getD j MS.zero = _
        rw [List.getD_eq_getElem?_getD, List.getElem?_set_ne hij, schs_get s j hj]
        rfl
      unfold M.setS
      rw [show M.sch { mir s with schools := (mir s).schools.set i _ } j = schM s j from hsj]
      rw [mir_sch s i hi, fee_cast]
      show ((schs s).set i _).set j _ = schs t
      apply List.ext_getElem?
      intro k
      by_cases hk : k < s.schools.length
      · rw [schs_get t k (by omega)]
        by_cases c : k = j
        · subst c
          rw [List.getElem?_set_self (by rw [List.length_set, schs_len]; exact hk)]
          congr 1
          unfold schM
          rw [at_ k hk, if_pos rfl, sum2, sum2, sum2, sum2, sum2]
          simp [hij]
        · rw [List.getElem?_set_ne (fun z => c z.symm)]
          by_cases d : k = i
          · subst d
            rw [List.getElem?_set_self (by rw [schs_len]; exact hk)]
            congr 1
            have hne : ¬ j = k := fun z => c z.symm
            unfold load at fi
            refine MS.ext' ?_ ?_ ?_ ?_ ?_ ?_ ?_ ?_ ?_
            · show ((schoolAt s k).id : Int) = ((schoolAt t k).id : Int); rw [at_ _ hk, if_neg c, if_pos rfl]
            · show ((schoolAt s k).wanted : Int) - 1 = ((schoolAt t k).wanted : Int); rw [at_ _ hk, if_neg c, if_pos rfl]; show _ = (((schoolAt s k).wanted - 1 : Nat) : Int); omega
            · show ((schoolAt s k).has_ : Int) - 1 = ((schoolAt t k).has_ : Int); rw [at_ _ hk, if_neg c, if_pos rfl]; show _ = (((schoolAt s k).has_ - 1 : Nat) : Int); omega
            · show ((schoolAt s k).judges : Int) = ((schoolAt t k).judges : Int); rw [at_ _ hk, if_neg c, if_pos rfl]
            · show ((sumOf s k 0 : Nat) : Int) = ((sumOf t k 0 : Nat) : Int); rw [sum2]; simp
            · show ((sumOf s k 1 : Nat) : Int) = ((sumOf t k 1 : Nat) : Int); rw [sum2]; simp [hne]
            · show ((sumOf s k 2 : Nat) : Int) + _ = ((sumOf t k 2 : Nat) : Int); rw [sum2]; simp
            · show ((sumOf s k 3 : Nat) : Int) = ((sumOf t k 3 : Nat) : Int); rw [sum2]; simp
            · show ((sumOf s k 4 : Nat) : Int) = ((sumOf t k 4 : Nat) : Int); rw [sum2]; simp
          · rw [List.getElem?_set_ne (fun z => d z.symm), schs_get s k hk]
            congr 1
            have h1 : ¬ i = k := fun z => d z.symm
            have h2 : ¬ j = k := fun z => c z.symm
            unfold schM
            rw [at_ k hk, if_neg c, if_neg d, sum2, sum2, sum2, sum2, sum2]
            simp [h1, h2]
      · rw [List.getElem?_eq_none (by rw [List.length_set, List.length_set, schs_len]; omega), List.getElem?_eq_none (by rw [schs_len]; omega)]
    · show s.offers.map (offM s) = t.offers.map (offM t)
      rw [e2, offs_same id_ I.offS]
    · show ((s.next : Nat) : Int) = ((t.next : Nat) : Int); rw [e3]
    · show ((s.day : Nat) : Int) = ((t.day : Nat) : Int); rw [e4]
    · show s.closed = t.closed; rw [e6]
    · show ((s.money.length : Nat) : Int) + 2 = ((t.money.length : Nat) : Int); rw [e5, List.length_append]; rfl
  · show [((schoolAt s i).has_ : Int) - 1] = [(((schoolAt s i).has_ - 1 : Nat) : Int)]
    congr 1
    omega
end Eh

-- EhM6
set_option Elab.async false
set_option linter.all false
namespace Eh
open Vbdbam (Bytes schoolAt setSchool offersTo load used waits nextSchool offerTo offersMade gone lapsed balance sumOf owed percent swings missing finesOf queueFrom idAt placeOf total)
open VbdbamNeutral (flatAns)

theorem withRows_is (v : Int) (rows : List (List Int)) : withRows v rows = flatAns ⟨v, rows⟩ := by
  unfold withRows flatAns
  match rows with
  | [] => rfl
  | [r] => simp
  | a :: b :: r => simp
theorem start_inv : SInv Vbdbam.start where
  rb := by
    refine ⟨?_, ?_, ?_, ?_, ?_, ?_, ?_, ?_, ?_, ?_, ?_, ?_, ?_, ?_, ?_, ?_⟩
    case refine_16 => intro p hp; cases hp
    all_goals decide
  ids := List.nodup_nil
  few := by decide
  fit := fun i h => absurd h (Nat.not_lt_zero _)
  small := fun i h => absurd h (Nat.not_lt_zero _)
  offS := fun o h => by cases h
  offN := List.Pairwise.nil
  offL := fun o h => by cases h
  room := by decide
  mon := fun e h => by cases h
theorem start_is : mir Vbdbam.start = M.fresh := rfl
theorem enter_is {s : SS} (I : SInv s) (n w j : Int) : Ok1 s (enterM (mir s) n w j) (Vbdbam.step s (.enter n w j)) := by
  unfold enterM
  have hs : Vbdbam.step s (.enter n w j) = if (Vbdbam.inside n 1 999 && (Vbdbam.inside w 1 20 && Vbdbam.inside j 0 99)) = false then Vbdbam.no s (-1) else Vbdbam.unlessClosed s (if (placeOf s n).isSome = true then Vbdbam.no s (-3) else if Vbdbam.MOSTSCHOOLS ≤ s.schools.length then Vbdbam.no s (-9)
      else ({ s with schools := s.schools ++ [⟨n.toNat, w.toNat, 0, j.toNat⟩] }, ⟨(s.schools.length : Nat), []⟩)) := rfl
  rw [hs]
  refine Ok1.ref I ?_ fun hin => ?_
  · rw [show outside 1 999 n = _ from outside_is 1 999 n, show outside 1 20 w = _ from outside_is 1 20 w, show outside 0 99 j = _ from outside_is 0 99 j]
    cases Vbdbam.inside n 1 999 <;> cases Vbdbam.inside w 1 20 <;> cases Vbdbam.inside j 0 99 <;> rfl
  have h' : (Vbdbam.inside n 1 999 && (Vbdbam.inside w 1 20 && Vbdbam.inside j 0 99)) = true := by simpa using hin
  rw [Bool.and_eq_true, Bool.and_eq_true] at h'
  obtain ⟨n1, n2, n3⟩ := inside_of (lo := 1) (hi := 999) (n := n) (by rw [h'.1]; decide)
  obtain ⟨w1, w2, w3⟩ := inside_of (lo := 1) (hi := 20) (n := w) (by rw [h'.2.1]; decide)
  obtain ⟨j1, j2, j3⟩ := inside_of (lo := 0) (hi := 99) (n := j) (by rw [h'.2.2]; decide)
  refine Ok1.closed I fun _ => ?_
  refine Ok1.ref I (c := (placeOf s n).isSome = true) (by rw [mir_find]; cases (placeOf s n).isSome <;> rfl) fun hp => ?_
  have hlen0 : (mir s).schools.length = s.schools.length := schs_len s
  refine Ok1.ref I (c := Vbdbam.MOSTSCHOOLS ≤ s.schools.length) (decide_eq_decide.mpr (by rw [hlen0]; show (30 : Int) ≤ _ ↔ 30 ≤ _; omega)) fun hm => ?_
  have hm' : s.schools.length < 30 := Nat.lt_of_not_le hm
  generalize ht : ({ s with schools := s.schools ++ [⟨n.toNat, w.toNat, 0, j.toNat⟩] } : SS) = t
  have e7 : t.schools = s.schools ++ [⟨n.toNat, w.toNat, 0, j.toNat⟩] := by rw [← ht]
  have e5 : t.money = s.money := by rw [← ht]
  have hlen : t.schools.length = s.schools.length + 1 := by rw [e7, List.length_append]; rfl
  have at_ : ∀ k, k < s.schools.length → schoolAt t k = schoolAt s k := fun k hk => by
    unfold schoolAt
    rw [e7, List.getElem?_append_left hk]
  have atn : schoolAt t s.schools.length = ⟨n.toNat, w.toNat, 0, j.toNat⟩ := by
    unfold schoolAt
    rw [e7, List.getElem?_append_right (Nat.le_refl _)]
    simp
  have id_ : ∀ k, k < s.schools.length → idAt t k = idAt s k := fun k hk => by unfold idAt; rw [at_ k hk]
  have ot : ∀ k, offersTo t k = offersTo s k := fun k => by rw [← ht]; rfl
  have ot0 : offersTo s s.schools.length = 0 := by
    unfold offersTo
    rw [List.length_eq_zero_iff, List.filter_eq_nil_iff]
    intro o ho
    have := I.offS o ho
    intro z
    have := eq_of_beq z
    omega
  have hI : SInv t := by
    refine ⟨by rw [← ht]; exact I.rb, ?_, by omega, fun k hk => ?_, fun k hk => ?_, fun o h => ?_, by rw [← ht]; exact I.offN, by rw [← ht]; exact I.offL, ?_, fun e h => ?_⟩
    · rw [e7, List.map_append, List.nodup_append]
      refine ⟨I.ids, by simp, fun a ha b hb => ?_⟩
      obtain ⟨x, hx, rfl⟩ := List.mem_map.mp ha
      have eb : b = n.toNat := by simpa using hb
      rw [eb]
      intro z
      apply hp
      unfold placeOf
      rw [List.findIdx?_isSome]
      rw [List.any_eq_true]
      refine ⟨x, hx, ?_⟩
      rw [z]
      simp
      omega
    · by_cases c : k < s.schools.length
      · have f := I.fit k c
        unfold load at f ⊢
        rw [at_ k c, ot]
        exact f
      · have : k = s.schools.length := by omega
        subst this
        unfold load
        rw [atn, ot, ot0]
        exact Nat.zero_le _
    · by_cases c : k < s.schools.length
      · rw [at_ k c]; exact I.small k c
      · have : k = s.schools.length := by omega
        subst this
        rw [atn]
        show w.toNat ≤ 20
        omega
    · rw [hlen]
      have := I.offS o (by rw [← ht] at h; exact h)
      omega
    · have : used t = used s := by
        unfold used
        rw [e7, List.map_append]
        have : total (s.schools.map (fun x => x.has_) ++ [0]) = total (s.schools.map fun x => x.has_) := by
          rw [total_eq, total_eq, List.sum_append]; simp
        show total (s.schools.map (fun x => x.has_) ++ [0]) + t.offers.length = _
        rw [this, ← ht]
      rw [this, ← ht]
      exact I.room
    · rw [hlen]
      have := I.mon e (by rw [← ht] at h; exact h)
      exact ⟨by omega, this.2⟩
  refine ⟨pair_eq ?_ ?_, hI⟩
  · refine M.ext' (by rw [← ht]; rfl) ?_ ?_ (by rw [← ht]; rfl) (by rw [← ht]; rfl) (by rw [← ht]; rfl) (by rw [← ht]; rfl)
    · show schs s ++ [_] = schs t
      unfold schs
      rw [hlen, List.range_succ, List.map_append]
      congr 1
      · apply List.map_congr_left
        intro k hk
        unfold schM
        rw [at_ k (List.mem_range.mp hk), sumOf_same e5, sumOf_same e5, sumOf_same e5, sumOf_same e5, sumOf_same e5]
      · show [_] = [schM t s.schools.length]
        unfold schM
        rw [atn, sumOf_same e5, sumOf_same e5, sumOf_same e5, sumOf_same e5, sumOf_same e5, sumOf_none (fun e h => (I.mon e h).1), sumOf_none (fun e h => (I.mon e h).1), sumOf_none (fun e h => (I.mon e h).1), sumOf_none (fun e h => (I.mon e h).1), sumOf_none (fun e h => (I.mon e h).1)]
        show [(⟨n, w, 0, j, 0, 0, 0, 0, 0⟩ : MS)] = [⟨((n.toNat : Nat) : Int), ((w.toNat : Nat) : Int), 0, ((j.toNat : Nat) : Int), 0, 0, 0, 0, 0⟩]
        rw [n3, w3, j3]
    · show s.offers.map (offM s) = t.offers.map (offM t)
      have e2 : t.offers = s.offers := by rw [← ht]
      rw [e2, offs_same id_ I.offS]
  · show [(((mir s).schools.length : Nat) : Int)] = [((s.schools.length : Nat) : Int)]
    rw [hlen0]
theorem nightC_is {s : SS} (I : SInv s) (n : Int) : Ok1 s (nightM (mir s) n) (Vbdbam.step s (.night n)) := by
  unfold nightM
  have hs : Vbdbam.step s (.night n) = if Vbdbam.inside n 1 30 = false then Vbdbam.no s (-1) else if Vbdbam.MOSTDAY < s.day + n.toNat then Vbdbam.no s (-9) else
      (Vbdbam.nights n.toNat s, ⟨((Vbdbam.nights n.toNat s).day : Nat), [((Vbdbam.nights n.toNat s).offers.filter fun o => decide (s.next ≤ o.number)).flatMap fun o => Vbdbam.ints [o.number, idAt (Vbdbam.nights n.toNat s) o.school, o.day]]⟩) := rfl
  rw [hs]
  refine Ok1.ref I (outside_is 1 30 n) fun hin => ?_
  obtain ⟨n1, n2, n3⟩ := inside_of hin
  refine Ok1.ref I (c := Vbdbam.MOSTDAY < s.day + n.toNat) (decide_eq_decide.mpr (by show ((s.day : Nat) : Int) + n > 1000 ↔ 1000 < s.day + n.toNat; omega)) fun _ => ?_
  obtain ⟨e, I1⟩ := nights_is n.toNat I
  rw [e]
  generalize Vbdbam.nights n.toNat s = t at I1
  refine ⟨pair_eq rfl ?_, I1⟩
  show ((t.day : Nat) : Int) :: _ = ((t.day : Nat) : Int) :: _
  congr 1
  show ((t.offers.map (offM t)).filter fun o => decide ((s.next : Int) ≤ o.number)).flatMap (fun o => [o.number, o.school, o.day]) = [((t.offers.filter fun o => decide (s.next ≤ o.number)).flatMap fun o => Vbdbam.ints [o.number, idAt t o.school, o.day])].flatten
  rw [List.filter_map, List.flatMap_map]
  have ef : ((fun o : MO => decide ((s.next : Int) ≤ o.number)) ∘ offM t) = fun o : Vbdbam.Offer => decide (s.next ≤ o.number) := by
    funext o
    show decide ((s.next : Int) ≤ ((o.number : Nat) : Int)) = _
    exact decide_eq_decide.mpr (by omega)
  rw [ef]
  simp only [List.flatten_cons, List.flatten_nil, List.append_nil]
  rfl
theorem school_is {s : SS} (I : SInv s) (n : Int) : Ok1 s (schoolM (mir s) n) (Vbdbam.step s (.school n)) := by
  unfold schoolM
  show Ok1 s _ (Vbdbam.onSchool s n fun i x => _)
  refine Ok1.school I fun i hi _ _ => ?_
  refine ⟨pair_eq rfl ?_, I⟩
  show [(schM s i).has, (schM s i).wanted, (mir s).standing ((idAt s i : Nat) : Int), (schM s i).judges, (mir s).rules.owed (((schoolAt s i).has_ : Nat) : Int)] = _
  rw [mir_standing I hi, mir_owed I]
  rfl
theorem account_call {s : SS} (I : SInv s) (n : Int) : Ok1 s (accountM (mir s) n) (Vbdbam.step s (.account n)) := by
  unfold accountM
  show Ok1 s _ (Vbdbam.onSchool s n fun i x => _)
  refine Ok1.school I fun i hi _ _ => ?_
  refine ⟨pair_eq rfl ?_, I⟩
  rw [account_is I.kinds]
  rfl
theorem offers_is {s : SS} (I : SInv s) : Ok1 s (.ok (mir s, offersM (mir s))) (Vbdbam.step s .offers) := by
  refine ⟨pair_eq rfl ?_, I⟩
  unfold offersM
  rw [withRows_is]
  show flatAns ⟨(((s.offers.map (offM s)).length : Nat) : Int), (s.offers.map (offM s)).map _⟩ = flatAns ⟨((s.offers.length : Nat) : Int), s.offers.map _⟩
  rw [List.length_map, List.map_map]
  congr 2
theorem queueC_is {s : SS} (I : SInv s) : Ok1 s (.ok (mir s, ((queueOf (mir s)).length : Int) :: queueOf (mir s))) (Vbdbam.step s .queue) := by
  refine ⟨pair_eq rfl ?_, I⟩
  rw [queueOf_is I]
  show _ = (((queueFrom 300 s).length : Nat) : Int) :: [Vbdbam.ints ((queueFrom 300 s).map (idAt s))].flatten
  rw [List.length_map]
  congr 1
  simp only [List.flatten_cons, List.flatten_nil, List.append_nil]
  unfold Vbdbam.ints
  rw [List.map_map]
  rfl
theorem bal_sum {s : SS} (I : SInv s) : ((mir s).schools.map MS.account).sum = ((List.range s.schools.length).map (balance s)).foldl (fun a b => a + b) 0 := by
  rw [sumI_eq]
  congr 1
  show (schs s).map MS.account = _
  unfold schs
  rw [List.map_map]
  apply List.map_congr_left
  intro i _
  exact account_is I.kinds i
theorem sort_sum {s : SS} (I : SInv s) (k : Nat) (hk : k < 5) : ((mir s).schools.map fun x => x.money.getD k 0).sum = ((total ((s.money.filter fun e => e.kind == k).map fun e => e.amount) : Nat) : Int) := by
  rw [total_eq, ← sum_schools (n := s.schools.length) s.money (fun e h => (I.mon e h).1), cast_sum, List.map_map]
  show ((schs s).map _).sum = _
  unfold schs
  rw [List.map_map]
  congr 1
  apply List.map_congr_left
  intro i _
  show (schM s i).money.getD k 0 = ((sumL s.money i k : Nat) : Int)
  have e : ∀ q, sumL s.money i q = sumOf s i q := fun q => (sumOf_eq s i q).symm
  rw [e]
  have : k = 0 ∨ k = 1 ∨ k = 2 ∨ k = 3 ∨ k = 4 := by omega
  rcases this with q | q | q | q | q <;> subst q <;> rfl
theorem moneyC_is {s : SS} (I : SInv s) : Ok1 s (.ok (mir s, moneyM (mir s))) (Vbdbam.step s .money) := by
  refine ⟨pair_eq rfl ?_, I⟩
  unfold moneyM
  rw [bal_sum I]
  show _ :: _ = _ :: [Vbdbam.ints ((List.range 5).map fun k => total ((s.money.filter fun e => e.kind == k).map fun e => e.amount))].flatten
  congr 1
  simp only [List.flatten_cons, List.flatten_nil, List.append_nil]
  unfold Vbdbam.ints
  rw [List.map_map]
  apply List.map_congr_left
  intro k hk
  exact sort_sum I k (List.mem_range.mp hk)
theorem counts_is {s : SS} (I : SInv s) : Ok1 s (.ok (mir s, countsM (mir s))) (Vbdbam.step s .counts) := by
  refine ⟨pair_eq rfl ?_, I⟩
  unfold countsM
  rw [mir_taken, mir_percent]
  have h1 : (mir s).schools.length = s.schools.length := schs_len s
  have h2 : (mir s).offers.length = s.offers.length := List.length_map _
  rw [h1, h2]
  show [((s.day : Nat) : Int), ((s.schools.length : Nat) : Int), _, _, _, (if s.closed = true then (1 : Int) else 0), _, _] = [((s.day : Nat) : Int), ((s.schools.length : Nat) : Int), _, _, _, (((if s.closed = true then 1 else 0) : Nat) : Int), _, _]
  cases s.closed <;> rfl
theorem clear_is {s : SS} (I : SInv s) : Ok1 s (.ok (M.fresh, [0])) (Vbdbam.step s .clear) := ⟨rfl, start_inv⟩

/-! ### close -/
theorem sumL_app (a b : List Vbdbam.Entry) (i k : Nat) : sumL (a ++ b) i k = sumL a i k + sumL b i k := by
  unfold sumL
  rw [List.filter_append, List.map_append, List.sum_append]
theorem fines_sum (s : SS) (i k : Nat) : ∀ n, sumL (((List.range n).filter fun i => decide (0 < missing s i * s.rules.fine)).map fun i => ⟨i, 3, missing s i * s.rules.fine⟩) i k = if i < n ∧ k = 3 then missing s i * s.rules.fine else 0
  | 0 => by rw [if_neg (by omega)]; rfl
  | n + 1 => by
    have one : sumL (([n].filter fun i => decide (0 < missing s i * s.rules.fine)).map fun i => ⟨i, 3, missing s i * s.rules.fine⟩) i k = if n = i ∧ k = 3 then missing s i * s.rules.fine else 0 := by
      rw [List.filter_cons]
      by_cases c : 0 < missing s n * s.rules.fine
      · rw [if_pos (decide_eq_true c)]
        show sumL [⟨n, 3, missing s n * s.rules.fine⟩] i k = _
        rw [sumL_cons]
        show (if n = i ∧ 3 = k then missing s n * s.rules.fine else 0) + 0 = _
        by_cases e : n = i
        · subst e
          by_cases f : k = 3
          · subst f; simp
          · have f' : ¬ 3 = k := fun z => f z.symm
            simp [f, f']
        · simp [e]
      · rw [if_neg (by simpa using c)]
        show (0 : Nat) = _
        by_cases e : n = i ∧ k = 3
        · rw [if_pos e, ← e.1]; omega
        · rw [if_neg e]
    rw [List.range_succ, List.filter_append, List.map_append, sumL_app, fines_sum s i k n, one]
    by_cases a : i < n ∧ k = 3
    · rw [if_pos a, if_neg (by omega), if_pos (by omega)]
      omega
    · rw [if_neg a]
      by_cases b : n = i ∧ k = 3
      · rw [if_pos b, if_pos (by omega)]; omega
      · rw [if_neg b, if_neg (by omega)]
theorem mir_fined {s : SS} (I : SInv s) (i : Nat) : (mir s).rules.fined (schM s i) = ((missing s i * s.rules.fine : Nat) : Int) := by
  unfold MR.fined
  rw [mir_missing I, Int.natCast_mul]
  rfl
theorem close_is {s : SS} (I : SInv s) : Ok1 s (closeM (mir s)) (Vbdbam.step s .close) := by
  unfold closeM
  show Ok1 s _ (Vbdbam.unlessClosed s _)
  refine Ok1.closed I fun _ => ?_
  refine Ok1.ref I (c := s.day < s.rules.start) (decide_eq_decide.mpr (by show ((s.day : Nat) : Int) < ((s.rules.start : Nat) : Int) ↔ _; omega)) fun _ => ?_
  have hl0 : (mir s).schools.length = s.schools.length := schs_len s
  refine Ok1.ref I (c := Vbdbam.MOSTMONEY < s.money.length + s.schools.length) (decide_eq_decide.mpr (by rw [hl0]; show ((s.money.length : Nat) : Int) + _ > 400 ↔ 400 < _; omega)) fun _ => ?_
  show Ok1 s _ (({ s with offers := [], closed := true, money := s.money ++ finesOf s } : SS), _)
  generalize ht : ({ s with offers := [], closed := true, money := s.money ++ finesOf s } : SS) = t
  have e5 : t.money = s.money ++ finesOf s := by rw [← ht]
  have e7 : t.schools = s.schools := by rw [← ht]
  have at_ : ∀ k, schoolAt t k = schoolAt s k := fun k => by unfold schoolAt; rw [e7]
  have hI : SInv t := by
    have lt : ∀ k, load t k ≤ load s k := fun k => by
      unfold load offersTo
      rw [at_, ← ht]
      show _ + 0 ≤ _
      omega
    refine ⟨by rw [← ht]; exact I.rb, by rw [e7]; exact I.ids, by rw [e7]; exact I.few, fun k hk => ?_, fun k hk => ?_, ?_, ?_, ?_, ?_, ?_⟩
    · rw [at_]
      exact Nat.le_trans (lt k) (I.fit k (by rw [← e7]; exact hk))
    · rw [at_]; exact I.small k (by rw [← e7]; exact hk)
    · rw [← ht]; intro o h; cases h
    · rw [← ht]; exact List.Pairwise.nil
    · rw [← ht]; intro o h; cases h
    · have : used t ≤ used s := by unfold used; rw [e7, ← ht]; show _ + 0 ≤ _; omega
      have h := I.room
      rw [show t.rules = s.rules by rw [← ht]]
      omega
    · intro e h
      rw [e7]
      rw [e5] at h
      rcases List.mem_append.mp h with q | q
      · exact I.mon e q
      · unfold finesOf at q
        obtain ⟨k, hk, rfl⟩ := List.mem_map.mp q
        exact ⟨List.mem_range.mp (List.mem_filter.mp hk).1, (by decide : (3 : Nat) < 5)⟩
  have sums : ∀ i k, sumOf t i k = sumOf s i k + if i < s.schools.length ∧ k = 3 then missing s i * s.rules.fine else 0 := fun i k => by
    have a : sumOf t i k = sumL t.money i k := sumOf_eq t i k
    have b : sumOf s i k = sumL s.money i k := sumOf_eq s i k
    rw [a, b, e5, sumL_app]
    congr 1
    exact fines_sum s i k s.schools.length
  have hsch : (mir s).closeAll.schools = schs t := by
    show (schs s).map (mir s).rules.charge = schs t
    unfold schs
    rw [e7, List.map_map]
    apply List.map_congr_left
    intro i hi
    have hi' := List.mem_range.mp hi
    show (mir s).rules.charge (schM s i) = schM t i
    unfold MR.charge
    rw [mir_fined I]
    by_cases c : ((missing s i * s.rules.fine : Nat) : Int) > 0
    · rw [if_pos c]
      refine MS.ext' ?_ ?_ ?_ ?_ ?_ ?_ ?_ ?_ ?_
      · show ((schoolAt s i).id : Int) = ((schoolAt t i).id : Int); rw [at_]
      · show ((schoolAt s i).wanted : Int) = ((schoolAt t i).wanted : Int); rw [at_]
      · show ((schoolAt s i).has_ : Int) = ((schoolAt t i).has_ : Int); rw [at_]
      · show ((schoolAt s i).judges : Int) = ((schoolAt t i).judges : Int); rw [at_]
      · show ((sumOf s i 0 : Nat) : Int) = ((sumOf t i 0 : Nat) : Int); rw [sums, if_neg (by omega)]; rfl
      · show ((sumOf s i 1 : Nat) : Int) = ((sumOf t i 1 : Nat) : Int); rw [sums, if_neg (by omega)]; rfl
      · show ((sumOf s i 2 : Nat) : Int) = ((sumOf t i 2 : Nat) : Int); rw [sums, if_neg (by omega)]; rfl
      · show ((sumOf s i 3 : Nat) : Int) + _ = ((sumOf t i 3 : Nat) : Int); rw [sums, if_pos ⟨hi', rfl⟩, Int.natCast_add]
      · show ((sumOf s i 4 : Nat) : Int) = ((sumOf t i 4 : Nat) : Int); rw [sums, if_neg (by omega)]; rfl
    · rw [if_neg c]
      have z : missing s i * s.rules.fine = 0 := by omega
      unfold schM
      rw [at_, sums, sums, sums, sums, sums, z]
      simp
  have htk : (mir s).closeAll.taken = ((total (s.schools.map fun x => x.has_) : Nat) : Int) := by
    unfold M.taken
    rw [hsch]
    have := mir_taken t
    rw [e7] at this
    exact this
  refine ⟨pair_eq ?_ ?_, hI⟩
  · refine M.ext' (by rw [← ht]; rfl) hsch ?_ (by rw [← ht]; rfl) (by rw [← ht]; rfl) (by rw [← ht]; rfl) ?_
    · show [] = t.offers.map (offM t)
      rw [← ht]; rfl
    · show ((s.money.length : Nat) : Int) + ((((schs s).filter _).length : Nat) : Int) = ((t.money.length : Nat) : Int)
      rw [e5, List.length_append, Int.natCast_add]
      congr 2
      unfold finesOf schs
      rw [List.length_map, List.filter_map, List.length_map]
      congr 1
      apply List.filter_congr
      intro i _
      show decide ((mir s).rules.fined (schM s i) > 0) = _
      rw [mir_fined I]
      exact decide_eq_decide.mpr (by omega)
  · rw [withRows_is, htk, hsch]
    show flatAns ⟨_, [[_], _]⟩ = flatAns ⟨((total (s.schools.map fun x => x.has_) : Nat) : Int), [Vbdbam.ints [swings s.rules (total (s.schools.map fun x => x.has_))], (List.range s.schools.length).flatMap fun i => Vbdbam.ints [idAt s i, (schoolAt s i).has_, missing s i]]⟩
    have e1 : (0 - ((total (s.schools.map fun x => x.has_) : Nat) : Int)) % (mir s).rules.form = ((swings s.rules (total (s.schools.map fun x => x.has_)) : Nat) : Int) := by
      generalize total (s.schools.map fun x => x.has_) = n
      unfold swings
      show (0 - (n : Int)) % ((s.rules.form : Nat) : Int) = _
      rcases I.rb.f with q | q <;> rw [q] <;> omega
    have e2 : (schs t).flatMap (fun x => [x.number, x.has, (mir s).rules.missing x]) = (List.range s.schools.length).flatMap fun i => Vbdbam.ints [idAt s i, (schoolAt s i).has_, missing s i] := by
      unfold schs
      rw [e7, List.flatMap_map]
      have gen : ∀ (l : List Nat) (f g : Nat → List Int), (∀ i ∈ l, f i = g i) → l.flatMap f = l.flatMap g := by
        intro l
        induction l with
        | nil => intros; rfl
        | cons x r ih => intro f g h; rw [List.flatMap_cons, List.flatMap_cons, h x (by simp), ih f g fun i hi => h i (by simp [hi])]
      apply gen
      intro i _
      show [((idAt t i : Nat) : Int), (((schoolAt t i).has_ : Nat) : Int), (mir s).rules.missing (schM t i)] = [((idAt s i : Nat) : Int), (((schoolAt s i).has_ : Nat) : Int), ((missing s i : Nat) : Int)]
      have em : (mir s).rules.missing (schM t i) = (mir s).rules.missing (schM s i) := by
        unfold MR.missing
        rw [show (schM t i).has = (schM s i).has by unfold schM; rw [at_], show (schM t i).judges = (schM s i).judges by unfold schM; rw [at_]]
      rw [em, mir_missing I]
      unfold idAt
      rw [at_]
    rw [e1, e2]
    rfl
end Eh

-- EhM7
set_option Elab.async false
set_option linter.all false
namespace Eh
open Vbdbam (Bytes numberIn isDigit)

/-! ### numerals -/
theorem numM_bad {w : Bytes} (h : w.length > 4 ∨ w.all isDigit = false) : numM w = -1 := by unfold numM; rw [if_pos h]
theorem num_in {w : Bytes} (hw : w ≠ []) (lo hi : Nat) : numberIn lo hi w = if (lo : Int) ≤ numM w ∧ numM w ≤ (hi : Int) then some (numM w).toNat else none := by
  unfold numberIn numM
  have h0 : (!w.isEmpty) = true := by cases w with
    | nil => exact absurd rfl hw
    | cons _ _ => rfl
  by_cases h1 : w.length > 4 ∨ w.all isDigit = false
  · rw [if_pos h1, if_neg (by
      rintro ⟨_, a, b, _⟩
      rcases h1 with q | q
      · omega
      · rw [a] at q; cases q), if_neg (by rintro ⟨a, _⟩; omega)]
  · rw [if_neg h1]
    have d1 : w.length ≤ 4 := by omega
    have d2 : w.all isDigit = true := by
      cases q : w.all isDigit with
      | true => rfl
      | false => exact absurd (.inr q) h1
    have d3 : (w = [48] ∨ w.headD 48 ≠ 48) ↔ ¬ (w.headD 0 = 48 ∧ w.length > 1) := by
      cases w with
      | nil => exact absurd rfl hw
      | cons c r =>
        cases r with
        | nil => show ([c] = [48] ∨ c ≠ 48) ↔ ¬ (c = 48 ∧ 1 > 1); simp; omega
        | cons d t => show (c :: d :: t = [48] ∨ c ≠ 48) ↔ ¬ (c = 48 ∧ t.length + 1 + 1 > 1); simp
    by_cases h2 : w.headD 0 = 48 ∧ w.length > 1
    · rw [if_pos h2, if_neg (by rintro ⟨_, _, _, b, _⟩; exact d3.mp b h2), if_neg (by rintro ⟨a, _⟩; omega)]
    · rw [if_neg h2]
      by_cases h3 : lo ≤ Vbdbam.number w ∧ Vbdbam.number w ≤ hi
      · rw [if_pos ⟨h0, d2, d1, d3.mpr h2, h3⟩, if_pos (by omega)]
        rfl
      · rw [if_neg (by rintro ⟨_, _, _, _, b⟩; exact h3 b), if_neg (by omega)]
theorem numM_ge (w : Bytes) : -1 ≤ numM w := by
  unfold numM
  split
  · omega
  · split <;> omega
theorem digit_of {c : Nat} (h : isDigit c = true) : 48 ≤ c ∧ c ≤ 57 := by
  unfold isDigit at h
  rw [Bool.and_eq_true] at h
  exact ⟨of_decide_eq_true h.1, of_decide_eq_true h.2⟩
theorem numM_one {w : Bytes} (hw : w ≠ []) {d : Nat} (hd : d ≤ 9) : numM w = (d : Int) ↔ w = [48 + d] := by
  constructor
  · intro h
    unfold numM at h
    by_cases h1 : w.length > 4 ∨ w.all isDigit = false
    · rw [if_pos h1] at h; omega
    · rw [if_neg h1] at h
      by_cases h2 : w.headD 0 = 48 ∧ w.length > 1
      · rw [if_pos h2] at h; omega
      · rw [if_neg h2] at h
        have d1 : w.length ≤ 4 := by omega
        have d2 : w.all isDigit = true := by
          cases q : w.all isDigit with
          | true => rfl
          | false => exact absurd (.inr q) h1
        have hn : Vbdbam.number w = d := by omega
        match w, hw, d1, d2, h2, hn with
        | [a], _, _, q, _, e =>
          have qa := digit_of (by simpa using q : isDigit a = true)
          have e' : 10 * 0 + (a - 48) = d := e
          congr 1
          omega
        | [a, b], _, _, q, n0, e =>
          have q' : isDigit a = true ∧ isDigit b = true := by simpa using q
          have qa := digit_of q'.1
          have : ¬ a = 48 := fun z => n0 ⟨z, by simp⟩
          have e' : 10 * (10 * 0 + (a - 48)) + (b - 48) = d := e
          omega
        | [a, b, c], _, _, q, n0, e =>
          have q' : isDigit a = true ∧ isDigit b = true ∧ isDigit c = true := by simpa using q
          have qa := digit_of q'.1
          have : ¬ a = 48 := fun z => n0 ⟨z, by simp⟩
          have e' : 10 * (10 * (10 * 0 + (a - 48)) + (b - 48)) + (c - 48) = d := e
          omega
        | [a, b, c, f], _, _, q, n0, e =>
          have q' : isDigit a = true ∧ isDigit b = true ∧ isDigit c = true ∧ isDigit f = true := by simpa using q
          have qa := digit_of q'.1
          have : ¬ a = 48 := fun z => n0 ⟨z, by simp⟩
          have e' : 10 * (10 * (10 * (10 * 0 + (a - 48)) + (b - 48)) + (c - 48)) + (f - 48) = d := e
          omega
        | a :: b :: c :: f :: g :: r, _, l, _, _, _ => simp at l
  · intro h
    subst h
    have hdg : isDigit (48 + d) = true := by
      unfold isDigit
      rw [decide_eq_true (by omega), decide_eq_true (by omega)]
      rfl
    unfold numM
    rw [if_neg (by
      intro z
      rcases z with z | z
      · simp at z
      · simp [hdg] at z), if_neg (by rintro ⟨_, z⟩; simp at z)]
    show ((10 * 0 + (48 + d - 48) : Nat) : Int) = _
    omega

/-! ### a line's numbers -/
theorem one_word {α : Type} (r : List Bytes) (hr : ∀ w ∈ r, w ≠ []) (lo hi : Nat) (F : Nat → α) :
    (match r.map (numberIn lo hi) with | [some n] => some (F n) | _ => none) = if (r.map numM).length = 1 ∧ (lo : Int) ≤ (r.map numM).getD 0 0 ∧ (r.map numM).getD 0 0 ≤ (hi : Int) then some (F ((r.map numM).getD 0 0).toNat) else none := by
  match r, hr with
  | [], _ => simp
  | [w], h =>
    have e : (match ([w] : List Bytes).map (numberIn lo hi) with | [some n] => some (F n) | _ => none) = (match [if (lo : Int) ≤ numM w ∧ numM w ≤ (hi : Int) then some (numM w).toNat else none] with | [some n] => some (F n) | _ => none) := by
      rw [← num_in (h w (by simp))]
      rfl
    rw [e]
    by_cases c : (lo : Int) ≤ numM w ∧ numM w ≤ (hi : Int)
    · rw [if_pos c]
      exact (if_pos (show (([w] : List Bytes).map numM).length = 1 ∧ (lo : Int) ≤ (([w] : List Bytes).map numM).getD 0 0 ∧ (([w] : List Bytes).map numM).getD 0 0 ≤ (hi : Int) from ⟨rfl, c⟩)).symm
    · rw [if_neg c]
      exact (if_neg (show ¬ ((([w] : List Bytes).map numM).length = 1 ∧ (lo : Int) ≤ (([w] : List Bytes).map numM).getD 0 0 ∧ (([w] : List Bytes).map numM).getD 0 0 ≤ (hi : Int)) from fun z => c z.2)).symm
  | a :: b :: r', _ =>
    rw [if_neg (by rintro ⟨z, _⟩; simp at z)]
    show (match numberIn lo hi a :: numberIn lo hi b :: r'.map (numberIn lo hi) with | [some n] => some (F n) | _ => none) = none
    cases numberIn lo hi a <;> rfl
theorem two_words {α : Type} (r : List Bytes) (hr : ∀ w ∈ r, w ≠ []) (F : Nat → Nat → α) :
    (match r.map (numberIn 0 9) with | [some a, some b] => if b = 0 then none else some (F a b) | _ => none) =
      if (r.map numM).length = 2 ∧ (0 ≤ (r.map numM).getD 0 0 ∧ (r.map numM).getD 0 0 ≤ 9) ∧ 1 ≤ (r.map numM).getD 1 0 ∧ (r.map numM).getD 1 0 ≤ 9 then some (F ((r.map numM).getD 0 0).toNat ((r.map numM).getD 1 0).toNat) else none := by
  match r, hr with
  | [], _ => simp
  | [w], _ =>
    rw [if_neg (by rintro ⟨z, _⟩; simp at z)]
    show (match [numberIn 0 9 w] with | [some a, some b] => if b = 0 then none else some (F a b) | _ => none) = none
    cases numberIn 0 9 w <;> rfl
  | [v, w], h =>
    have e : (match ([v, w] : List Bytes).map (numberIn 0 9) with | [some a, some b] => if b = 0 then none else some (F a b) | _ => none) =
        (match [if (0 : Int) ≤ numM v ∧ numM v ≤ 9 then some (numM v).toNat else none, if (0 : Int) ≤ numM w ∧ numM w ≤ 9 then some (numM w).toNat else none] with | [some a, some b] => if b = 0 then none else some (F a b) | _ => none) := by
      have e1 := num_in (h v (by simp)) 0 9
      have e2 := num_in (h w (by simp)) 0 9
      have e3 : (if (0 : Int) ≤ numM v ∧ numM v ≤ 9 then some (numM v).toNat else none) = numberIn 0 9 v := e1.symm
      have e4 : (if (0 : Int) ≤ numM w ∧ numM w ≤ 9 then some (numM w).toNat else none) = numberIn 0 9 w := e2.symm
      rw [e3, e4]
      rfl
    rw [e]
    have no : ¬ ((0 ≤ numM v ∧ numM v ≤ 9) ∧ 1 ≤ numM w ∧ numM w ≤ 9) → (if (([v, w] : List Bytes).map numM).length = 2 ∧ (0 ≤ (([v, w] : List Bytes).map numM).getD 0 0 ∧ (([v, w] : List Bytes).map numM).getD 0 0 ≤ 9) ∧ 1 ≤ (([v, w] : List Bytes).map numM).getD 1 0 ∧ (([v, w] : List Bytes).map numM).getD 1 0 ≤ 9 then some (F ((([v, w] : List Bytes).map numM).getD 0 0).toNat ((([v, w] : List Bytes).map numM).getD 1 0).toNat) else none) = none := fun z => if_neg fun q => z q.2
    by_cases c : (0 : Int) ≤ numM v ∧ numM v ≤ 9
    · rw [if_pos c]
      by_cases d : (0 : Int) ≤ numM w ∧ numM w ≤ 9
      · rw [if_pos d]
        by_cases z : (numM w).toNat = 0
        · rw [no (by omega)]
          exact if_pos z
        · exact (if_neg z).trans (if_pos (show (([v, w] : List Bytes).map numM).length = 2 ∧ (0 ≤ (([v, w] : List Bytes).map numM).getD 0 0 ∧ (([v, w] : List Bytes).map numM).getD 0 0 ≤ 9) ∧ 1 ≤ (([v, w] : List Bytes).map numM).getD 1 0 ∧ (([v, w] : List Bytes).map numM).getD 1 0 ≤ 9 from ⟨rfl, c, by show 1 ≤ numM w; omega, d.2⟩)).symm
      · rw [if_neg d, no (by omega)]
    · rw [if_neg c, no fun z => c z.1]
  | a :: b :: c :: r', _ =>
    rw [if_neg (by rintro ⟨z, _⟩; simp at z)]
    show (match numberIn 0 9 a :: numberIn 0 9 b :: numberIn 0 9 c :: r'.map (numberIn 0 9) with | [some a, some b] => if b = 0 then none else some (F a b) | _ => none) = none
    cases numberIn 0 9 a <;> cases numberIn 0 9 b <;> rfl
theorem right_one (lo hi : Int) (k : Nat) (hb : boundsM k = [(lo, hi)]) (h8 : k ≠ 8) (h1 : k ≠ 1) (ns : List Int) : rightM k ns = decide (ns.length = 1 ∧ lo ≤ ns.getD 0 0 ∧ ns.getD 0 0 ≤ hi) := by
  unfold rightM
  rw [if_neg h8, hb, decide_eq_true h1]
  match ns with
  | [] => simp
  | [n] => simp
  | a :: b :: r => simp
theorem right_two (ns : List Int) : rightM 3 ns = decide (ns.length = 2 ∧ (0 ≤ ns.getD 0 0 ∧ ns.getD 0 0 ≤ 9) ∧ 1 ≤ ns.getD 1 0 ∧ ns.getD 1 0 ≤ 9) := by
  unfold rightM
  match ns with
  | [] => rfl
  | [n] => rfl
  | [a, b] => simp [boundsM]
  | a :: b :: c :: r => simp [boundsM]
theorem right_form (ns : List Int) : rightM 1 ns = decide (ns.length = 1 ∧ (ns.getD 0 0 = 2 ∨ ns.getD 0 0 = 4)) := by
  unfold rightM
  match ns with
  | [] => rfl
  | [n] =>
    show (decide (([n] : List Int).length = 1) && (((decide ((2 : Int) ≤ n) && decide (n ≤ 4)) && true) && (decide (1 ≠ 1) || decide (n ≠ 3)))) = decide (([n] : List Int).length = 1 ∧ (n = 2 ∨ n = 4))
    rw [Bool.eq_iff_iff]
    simp
    omega
  | a :: b :: r => simp [boundsM]

/-! ### pairs -/
theorem all_range_succ (n : Nat) (f : Nat → Bool) : (List.range (n + 1)).all f = (f 0 && (List.range n).all fun i => f (i + 1)) := by
  rw [List.range_succ_eq_map, List.all_cons, List.all_map]
  rfl
def nextOk (a b : Int) : List Int → Bool
  | c :: d :: _ => decide (c ≤ a - 1) && decide (d ≤ b)
  | _ => true
def chkPairs : List Int → Bool
  | a :: b :: r => ((decide (0 ≤ a) && decide (a ≤ 200)) && (decide (0 ≤ b) && decide (b ≤ 100))) && (nextOk a b r && chkPairs r)
  | _ => true
theorem pairAt_shift (a b : Int) (r : List Int) (i : Nat) : pairAt (a :: b :: r) (i + 2) = (pairAt r i && (if i = 0 then decide (r.getD 0 0 ≤ a - 1) else if i = 1 then decide (r.getD 1 0 ≤ b) else true)) := by
  match i with
  | 0 =>
    have e1 : pairAt (a :: b :: r) (0 + 2) = ((decide (0 ≤ r.getD 0 0) && decide (r.getD 0 0 ≤ 200)) && !(decide (r.getD 0 0 > a - 1))) := by
      unfold pairAt
      simp
    have e2 : pairAt r 0 = (decide (0 ≤ r.getD 0 0) && decide (r.getD 0 0 ≤ 200)) := by
      unfold pairAt
      simp
    rw [e1, e2, if_pos rfl, ← decide_not]
    congr 1
    exact decide_eq_decide.mpr (by omega)
  | 1 =>
    have e1 : pairAt (a :: b :: r) (1 + 2) = ((decide (0 ≤ r.getD 1 0) && decide (r.getD 1 0 ≤ 100)) && !(decide (r.getD 1 0 > b))) := by
      unfold pairAt
      simp
    have e2 : pairAt r 1 = (decide (0 ≤ r.getD 1 0) && decide (r.getD 1 0 ≤ 100)) := by
      unfold pairAt
      simp
    rw [e1, e2, if_neg (by decide), if_pos rfl, ← decide_not]
    congr 1
    exact decide_eq_decide.mpr (by omega)
  | i + 2 =>
    rw [if_neg (by omega : ¬ i + 2 = 0), if_neg (by omega : ¬ i + 2 = 1), Bool.and_true]
    have e2 : (i + 2 + 2) % 2 = (i + 2) % 2 := by omega
    have e1 : (a :: b :: r).getD (i + 2 + 2) 0 = r.getD (i + 2) 0 := rfl
    have e3 : (a :: b :: r).getD (i + 2 + 2 - 2) 0 = r.getD (i + 2 - 2) 0 := rfl
    have e4 : decide (1 < i + 2 + 2) = true := decide_eq_true (by omega)
    have e5 : decide (1 < i + 2) = true := decide_eq_true (by omega)
    unfold pairAt
    rw [e1, e2, e3, e4, e5]
theorem all_pairs : ∀ (ns : List Int), ns.length % 2 = 0 → (List.range ns.length).all (pairAt ns) = chkPairs ns
  | [], _ => rfl
  | [_], h => by simp at h
  | a :: b :: r, h => by
    have hr : r.length % 2 = 0 := by simp at h; omega
    have ih := all_pairs r hr
    show (List.range (r.length + 1 + 1)).all _ = _
    rw [all_range_succ, all_range_succ]
    have e0 : pairAt (a :: b :: r) 0 = (decide (0 ≤ a) && decide (a ≤ 200)) := by
      unfold pairAt
      show ((decide (0 ≤ a) && decide (a ≤ 200)) && !(decide (1 < 0) && _)) = _
      rw [show decide (1 < 0) = false from rfl, Bool.false_and]
      exact Bool.and_true _
    have e1 : pairAt (a :: b :: r) (0 + 1) = (decide (0 ≤ b) && decide (b ≤ 100)) := by
      unfold pairAt
      show ((decide (0 ≤ b) && decide (b ≤ 100)) && !(decide (1 < 1) && _)) = _
      rw [show decide (1 < 1) = false from rfl, Bool.false_and]
      exact Bool.and_true _
    rw [e0, e1]
    have e2 : (List.range r.length).all (fun i => pairAt (a :: b :: r) (i + 1 + 1)) = (nextOk a b r && (List.range r.length).all (pairAt r)) := by
      have e3 : (fun i => pairAt (a :: b :: r) (i + 1 + 1)) = fun i => (pairAt r i && (if i = 0 then decide (r.getD 0 0 ≤ a - 1) else if i = 1 then decide (r.getD 1 0 ≤ b) else true)) := by
        funext i
        exact pairAt_shift a b r i
      rw [e3]
      match r, hr with
      | [], _ => rfl
      | [_], h => simp at h
      | c :: d :: r', _ =>
        show (List.range (r'.length + 1 + 1)).all _ = ((decide (c ≤ a - 1) && decide (d ≤ b)) && (List.range (r'.length + 1 + 1)).all _)
        rw [all_range_succ, all_range_succ, all_range_succ, all_range_succ]
        have e6 : (fun i => (pairAt (c :: d :: r') (i + 1 + 1) && (if i + 1 + 1 = 0 then decide ((c :: d :: r').getD 0 0 ≤ a - 1) else if i + 1 + 1 = 1 then decide ((c :: d :: r').getD 1 0 ≤ b) else true))) = fun i => pairAt (c :: d :: r') (i + 1 + 1) := by
          funext i
          rw [if_neg (by omega), if_neg (by omega), Bool.and_true]
        rw [e6]
        show ((pairAt (c :: d :: r') 0 && decide (c ≤ a - 1)) && ((pairAt (c :: d :: r') (0 + 1) && decide (d ≤ b)) && _)) = _
        cases pairAt (c :: d :: r') 0 <;> cases pairAt (c :: d :: r') (0 + 1) <;> cases decide (c ≤ a - 1) <;> cases decide (d ≤ b) <;> simp
    rw [e2, ih]
    show ((decide (0 ≤ a) && decide (a ≤ 200)) && ((decide (0 ≤ b) && decide (b ≤ 100)) && _)) = chkPairs (a :: b :: r)
    rw [← Bool.and_assoc]
    rfl
theorem flat_pairs : ∀ (l : List Nat), l.length % 2 = 0 → flatB (Vbdbam.pairsOf l) = l.map fun (n : Nat) => (n : Int)
  | [], _ => rfl
  | [_], h => by simp at h
  | a :: b :: r, h => by
    have ih := flat_pairs r (by simp at h; omega)
    show (a : Int) :: (b : Int) :: flatB (Vbdbam.pairsOf r) = _
    rw [ih]
    rfl
theorem pairs_len : ∀ (l : List Nat), 2 * (Vbdbam.pairsOf l).length ≤ l.length
  | [] => Nat.le_refl _
  | [_] => by show 2 * 0 ≤ 1; omega
  | a :: b :: r => by
    have := pairs_len r
    show 2 * ((Vbdbam.pairsOf r).length + 1) ≤ r.length + 1 + 1
    omega
theorem pairs_ok : ∀ (l : List Nat), l.length % 2 = 0 → (∀ n ∈ l, n ≤ 200) → (chkPairs (l.map fun (n : Nat) => (n : Int)) = true ↔ Vbdbam.backOk (Vbdbam.pairsOf l) = true ∧ ((Vbdbam.pairsOf l).all fun p => decide (p.2 ≤ 100)) = true)
  | [], _, _ => by simp [chkPairs, Vbdbam.pairsOf, Vbdbam.backOk]
  | [_], h, _ => by simp at h
  | [a, b], _, h => by
    have := h a (by simp)
    show ((((decide ((0 : Int) ≤ a) && decide ((a : Int) ≤ 200)) && (decide ((0 : Int) ≤ b) && decide ((b : Int) ≤ 100))) && (true && true)) = true) ↔ (true = true ∧ (decide (b ≤ 100) && true) = true)
    simp
    omega
  | [_, _, _], h, _ => by simp at h
  | a :: b :: c :: d :: r, h, hl => by
    have ih := pairs_ok (c :: d :: r) (by simp at h ⊢; omega) fun n q => hl n (List.mem_cons_of_mem _ (List.mem_cons_of_mem _ q))
    have := hl a (by simp)
    show ((((decide ((0 : Int) ≤ a) && decide ((a : Int) ≤ 200)) && (decide ((0 : Int) ≤ b) && decide ((b : Int) ≤ 100))) && ((decide ((c : Int) ≤ a - 1) && decide ((d : Int) ≤ b)) && chkPairs ((c :: d :: r).map fun (n : Nat) => (n : Int)))) = true) ↔
      ((decide (c < a) && (decide (d ≤ b) && Vbdbam.backOk (Vbdbam.pairsOf (c :: d :: r)))) = true ∧ (decide (b ≤ 100) && (Vbdbam.pairsOf (c :: d :: r)).all fun p => decide (p.2 ≤ 100)) = true)
    simp only [Bool.and_eq_true, ih, decide_eq_true_eq]
    constructor
    · rintro ⟨⟨⟨_, _⟩, _, h1⟩, ⟨h2, h3⟩, h4, h5⟩
      exact ⟨⟨by omega, by omega, h4⟩, by omega, h5⟩
    · rintro ⟨⟨h1, h2, h3⟩, h4, h5⟩
      exact ⟨⟨⟨by omega, by omega⟩, by omega, by omega⟩, ⟨by omega, by omega⟩, h3, h5⟩
theorem chk_bounds : ∀ (ns : List Int), ns.length % 2 = 0 → chkPairs ns = true → ∀ n ∈ ns, 0 ≤ n ∧ n ≤ 200
  | [], _, _, n, h => by cases h
  | [_], h, _, _, _ => by simp at h
  | a :: b :: r, hl, h, n, hn => by
    have h' : (((decide (0 ≤ a) && decide (a ≤ 200)) && (decide (0 ≤ b) && decide (b ≤ 100))) && (_ && chkPairs r)) = true := h
    rw [Bool.and_eq_true, Bool.and_eq_true, Bool.and_eq_true, Bool.and_eq_true, Bool.and_eq_true] at h'
    obtain ⟨⟨⟨a1, a2⟩, b1, b2⟩, _, hr⟩ := h'
    have := of_decide_eq_true a1
    have := of_decide_eq_true a2
    have := of_decide_eq_true b1
    have := of_decide_eq_true b2
    rcases List.mem_cons.mp hn with e | hn
    · omega
    · rcases List.mem_cons.mp hn with e | hn
      · omega
      · exact chk_bounds r (by simp at hl; omega) hr n hn
theorem all_of (r : List Bytes) (hr : ∀ w ∈ r, w ≠ []) : Vbdbam.allOf (r.map (numberIn 0 200)) = if (r.map numM).all (fun n => decide (0 ≤ n) && decide (n ≤ 200)) = true then some ((r.map numM).map Int.toNat) else none := by
  induction r with
  | nil => rfl
  | cons w r ih =>
    have ih := ih fun x hx => hr x (by simp [hx])
    rw [List.map_cons, num_in (hr w (by simp)), List.map_cons, List.all_cons]
    show Vbdbam.allOf ((if (0 : Int) ≤ numM w ∧ numM w ≤ 200 then some (numM w).toNat else none) :: r.map (numberIn 0 200)) = _
    by_cases c : (0 : Int) ≤ numM w ∧ numM w ≤ 200
    · rw [if_pos c]
      show (Vbdbam.allOf (r.map (numberIn 0 200))).map (fun l => (numM w).toNat :: l) = _
      rw [ih, decide_eq_true c.1, decide_eq_true c.2]
      by_cases d : (r.map numM).all (fun n => decide (0 ≤ n) && decide (n ≤ 200)) = true
      · rw [if_pos d, if_pos (by rw [d]; rfl)]
        rfl
      · rw [if_neg d, if_neg (by simpa using d)]
        rfl
    · rw [if_neg c]
      show none = _
      rw [if_neg]
      intro z
      rw [Bool.and_eq_true, Bool.and_eq_true] at z
      exact c ⟨of_decide_eq_true z.1.1, of_decide_eq_true z.1.2⟩
theorem back_words {α : Type} (r : List Bytes) (hr : ∀ w ∈ r, w ≠ []) (F : List (Nat × Nat) → α) :
    (match Vbdbam.allOf (r.map (numberIn 0 200)) with
      | none => none
      | some l => if l.length % 2 = 0 ∧ l.length ≤ 2 * Vbdbam.MOSTBACK ∧ Vbdbam.backOk (Vbdbam.pairsOf l) = true ∧ ((Vbdbam.pairsOf l).all fun p => decide (p.2 ≤ 100)) = true then some (F (Vbdbam.pairsOf l)) else none) =
    if pairsM (r.map numM) = true then some (F (Vbdbam.pairsOf ((r.map numM).map Int.toNat))) else none := by
  rw [all_of r hr]
  generalize r.map numM = ns
  have cast : (∀ n ∈ ns, 0 ≤ n) → (ns.map Int.toNat).map (fun (n : Nat) => (n : Int)) = ns := fun h => by
    rw [List.map_map]
    conv => rhs; rw [← List.map_id ns]
    apply List.map_congr_left
    intro n hn
    have := h n hn
    show ((n.toNat : Nat) : Int) = n
    omega
  unfold pairsM
  by_cases hodd : ns.length % 2 = 1
  · have hz : (!(decide (ns.length % 2 = 1) || decide (12 < ns.length)) && (List.range ns.length).all (pairAt ns)) = false := by rw [decide_eq_true hodd]; rfl
    rw [hz]
    rw [show (if false = true then some (F (Vbdbam.pairsOf (ns.map Int.toNat))) else none) = none from rfl]
    by_cases c : ns.all (fun n => decide (0 ≤ n) && decide (n ≤ 200)) = true
    · rw [if_pos c]
      show (if _ then _ else none) = none
      rw [if_neg]
      rintro ⟨z, _⟩
      rw [List.length_map] at z
      omega
    · rw [if_neg c]
  · have hev : ns.length % 2 = 0 := by omega
    rw [decide_eq_false hodd, Bool.false_or, all_pairs ns hev]
    by_cases c : ns.all (fun n => decide (0 ≤ n) && decide (n ≤ 200)) = true
    · rw [if_pos c]
      have hb : ∀ n ∈ ns, 0 ≤ n ∧ n ≤ 200 := fun n hn => by
        have := List.all_eq_true.mp c n hn
        rw [Bool.and_eq_true] at this
        exact ⟨of_decide_eq_true this.1, of_decide_eq_true this.2⟩
      have hc := cast fun n hn => (hb n hn).1
      have hp := pairs_ok (ns.map Int.toNat) (by rw [List.length_map]; exact hev) fun n hn => by
        obtain ⟨m, hm, rfl⟩ := List.mem_map.mp hn
        have := hb m hm
        omega
      rw [hc] at hp
      show (if _ then _ else none) = _
      by_cases e : 12 < ns.length
      · rw [if_neg (by rintro ⟨_, z, _⟩; rw [List.length_map] at z; have : ns.length ≤ 12 := z; omega), if_neg (by rw [decide_eq_true e]; simp)]
      · rw [decide_eq_false e]
        by_cases f : chkPairs ns = true
        · rw [if_pos ⟨by rw [List.length_map]; exact hev, by rw [List.length_map]; show ns.length ≤ 12; omega, (hp.mp f).1, (hp.mp f).2⟩, if_pos (by rw [f]; rfl)]
        · rw [if_neg (by rintro ⟨_, _, z⟩; exact f (hp.mpr z)), if_neg (by intro z; rw [Bool.not_false, Bool.true_and] at z; exact f z)]
    · rw [if_neg c]
      show none = _
      rw [if_neg]
      intro z
      rw [Bool.and_eq_true] at z
      apply c
      rw [List.all_eq_true]
      intro n hn
      have := chk_bounds ns hev z.2 n hn
      rw [decide_eq_true this.1, decide_eq_true this.2]
      rfl
end Eh

-- EhM8
set_option Elab.async false
set_option linter.all false
namespace Eh
open Vbdbam (Bytes numberIn isDigit)
open VbdbamNeutral (flatAns)

/-! ### a line -/
structure LRel (x : Vbdbam.Rules × List Bytes) (r : MR) (told : List Nat) : Prop where
  eq : r = mirR x.1
  rb : RB x.1
  told_ : ∀ k, k < 9 → told.contains k = x.2.contains (kindAt k)
  few : ∀ k ∈ told, k < 9
def LineR (n : Nat) : Except Nat (Vbdbam.Rules × List Bytes) → Except Int (MR × List Nat) → Prop
  | .error e, .error e' => (e : Int) = e'
  | .ok y, .ok z => LRel y z.1 z.2
  | _, _ => False
theorem kindAt_inj : ∀ j, j < 9 → ∀ k, k < 9 → kindAt j = kindAt k → j = k := by decide +kernel
theorem kinds_self : ∀ k, k < 9 → kindsOf (kindAt k) = [k] := by decide +kernel
theorem kinds_in : ∀ k, k < 9 → Vbdbam.KINDS.contains (kindAt k) = true := by decide +kernel
theorem kinds_list : Vbdbam.KINDS = [kindAt 0, kindAt 1, kindAt 2, kindAt 3, kindAt 4, kindAt 5, kindAt 6, kindAt 7, kindAt 8] := by decide +kernel
theorem kinds_none {w : Bytes} (h : ∀ k, k < 9 → w ≠ kindAt k) : kindsOf w = [] ∧ Vbdbam.KINDS.contains w = false := by
  constructor
  · unfold kindsOf
    rw [List.filter_eq_nil_iff]
    intro k hk
    have := h k (List.mem_range.mp hk)
    simp [this]
  · rw [kinds_list]
    simp [h 0 (by decide), h 1 (by decide), h 2 (by decide), h 3 (by decide), h 4 (by decide), h 5 (by decide), h 6 (by decide), h 7 (by decide), h 8 (by decide)]
/-- what the specification makes of a line of the k-th kind -/
def lineK (x : Vbdbam.Rules × List Bytes) (k : Nat) (r : List Bytes) : Option Vbdbam.Rules :=
  if k = 0 then (match r.map (numberIn 2 60) with | [some n] => some { x.1 with places := n } | _ => none)
  else if k = 1 then (if r = [[50]] then some { x.1 with form := 2 } else if r = [[52]] then some { x.1 with form := 4 } else none)
  else if k = 2 then (match r.map (numberIn 1 9) with | [some n] => some { x.1 with cap := n } | _ => none)
  else if k = 3 then (match r.map (numberIn 0 9) with | [some a, some b] => if b = 0 then none else some { x.1 with judges := a, per := b } | _ => none)
  else if k = 4 then (match r.map (numberIn 0 9999) with | [some n] => some { x.1 with fee := n } | _ => none)
  else if k = 5 then (match r.map (numberIn 0 9999) with | [some n] => some { x.1 with fine := n } | _ => none)
  else if k = 6 then (match r.map (numberIn 1 30) with | [some n] => some { x.1 with answer := n } | _ => none)
  else if k = 7 then (match r.map (numberIn 1 200) with | [some n] => some { x.1 with start := n } | _ => none)
  else match Vbdbam.allOf (r.map (numberIn 0 200)) with
    | none => none
    | some l => if l.length % 2 = 0 ∧ l.length ≤ 2 * Vbdbam.MOSTBACK ∧ Vbdbam.backOk (Vbdbam.pairsOf l) = true ∧ ((Vbdbam.pairsOf l).all fun p => decide (p.2 ≤ 100)) = true then some { x.1 with back := Vbdbam.pairsOf l } else none
def lineX (x : Vbdbam.Rules × List Bytes) (k : Nat) (r : List Bytes) : Except Nat (Vbdbam.Rules × List Bytes) :=
  if x.2.contains (kindAt k) = true then .error 2 else match lineK x k r with
    | none => .error 3
    | some z => .ok (z, kindAt k :: x.2)
theorem kt : (kindAt 0 = Vbdbam.text "places" ∧ kindAt 1 = Vbdbam.text "form" ∧ kindAt 2 = Vbdbam.text "cap" ∧ kindAt 3 = Vbdbam.text "judges" ∧ kindAt 4 = Vbdbam.text "fee") ∧ (kindAt 5 = Vbdbam.text "fine" ∧ kindAt 6 = Vbdbam.text "answer" ∧ kindAt 7 = Vbdbam.text "start" ∧ kindAt 8 = Vbdbam.text "back") := by decide +kernel
theorem kn (j k : Nat) (hj : j < 9) (hk : k < 9) (h : j ≠ k) : ¬ kindAt j = kindAt k := fun e => h (kindAt_inj j hj k hk e)
theorem lineOf_kind (x : Vbdbam.Rules × List Bytes) (l : Bytes) (k : Nat) (hk : k < 9) (r : List Bytes) (h : Vbdbam.words l = kindAt k :: r) : Vbdbam.lineOf x l = lineX x k r := by
  unfold Vbdbam.lineOf lineX
  rw [h]
  obtain ⟨⟨t0, t1, t2, t3, t4⟩, t5, t6, t7, t8⟩ := kt
  rw [← t0, ← t1, ← t2, ← t3, ← t4, ← t5, ← t6, ← t7]
  show (if Vbdbam.KINDS.contains (kindAt k) = false then _ else _) = _
  rw [if_neg (by rw [kinds_in k hk]; decide)]
  have c : k = 0 ∨ k = 1 ∨ k = 2 ∨ k = 3 ∨ k = 4 ∨ k = 5 ∨ k = 6 ∨ k = 7 ∨ k = 8 := by omega
  unfold lineK
  rcases c with e | e | e | e | e | e | e | e | e <;> subst e <;> dsimp only
  · rw [if_pos rfl]
    rfl
  · rw [if_neg (kn 1 0 (by decide) (by decide) (by decide)), if_pos rfl]
    rfl
  · rw [if_neg (kn 2 0 (by decide) (by decide) (by decide)), if_neg (kn 2 1 (by decide) (by decide) (by decide)), if_pos rfl]
    rfl
  · rw [if_neg (kn 3 0 (by decide) (by decide) (by decide)), if_neg (kn 3 1 (by decide) (by decide) (by decide)), if_neg (kn 3 2 (by decide) (by decide) (by decide)), if_pos rfl]
    rfl
  · rw [if_neg (kn 4 0 (by decide) (by decide) (by decide)), if_neg (kn 4 1 (by decide) (by decide) (by decide)), if_neg (kn 4 2 (by decide) (by decide) (by decide)), if_neg (kn 4 3 (by decide) (by decide) (by decide)), if_pos rfl]
    rfl
  · rw [if_neg (kn 5 0 (by decide) (by decide) (by decide)), if_neg (kn 5 1 (by decide) (by decide) (by decide)), if_neg (kn 5 2 (by decide) (by decide) (by decide)), if_neg (kn 5 3 (by decide) (by decide) (by decide)), if_neg (kn 5 4 (by decide) (by decide) (by decide)), if_pos rfl]
    rfl
  · rw [if_neg (kn 6 0 (by decide) (by decide) (by decide)), if_neg (kn 6 1 (by decide) (by decide) (by decide)), if_neg (kn 6 2 (by decide) (by decide) (by decide)), if_neg (kn 6 3 (by decide) (by decide) (by decide)), if_neg (kn 6 4 (by decide) (by decide) (by decide)), if_neg (kn 6 5 (by decide) (by decide) (by decide)), if_pos rfl]
    rfl
  · rw [if_neg (kn 7 0 (by decide) (by decide) (by decide)), if_neg (kn 7 1 (by decide) (by decide) (by decide)), if_neg (kn 7 2 (by decide) (by decide) (by decide)), if_neg (kn 7 3 (by decide) (by decide) (by decide)), if_neg (kn 7 4 (by decide) (by decide) (by decide)), if_neg (kn 7 5 (by decide) (by decide) (by decide)), if_neg (kn 7 6 (by decide) (by decide) (by decide)), if_pos rfl]
    rfl
  · rw [if_neg (kn 8 0 (by decide) (by decide) (by decide)), if_neg (kn 8 1 (by decide) (by decide) (by decide)), if_neg (kn 8 2 (by decide) (by decide) (by decide)), if_neg (kn 8 3 (by decide) (by decide) (by decide)), if_neg (kn 8 4 (by decide) (by decide) (by decide)), if_neg (kn 8 5 (by decide) (by decide) (by decide)), if_neg (kn 8 6 (by decide) (by decide) (by decide)), if_neg (kn 8 7 (by decide) (by decide) (by decide))]
    rfl
theorem lineOf_none (x : Vbdbam.Rules × List Bytes) (l : Bytes) (w : Bytes) (r : List Bytes) (h : Vbdbam.words l = w :: r) (hw : Vbdbam.KINDS.contains w = false) : Vbdbam.lineOf x l = .error 1 := by
  unfold Vbdbam.lineOf
  rw [h]
  show (if Vbdbam.KINDS.contains w = false then _ else _) = _
  rw [if_pos hw]
theorem lineOf_nil (x : Vbdbam.Rules × List Bytes) (l : Bytes) (h : Vbdbam.words l = []) : Vbdbam.lineOf x l = .ok x := by
  unfold Vbdbam.lineOf
  rw [h]
/-- the k-th kind: the specification's rules and the mirror's -/
theorem kind_is (x : Vbdbam.Rules × List Bytes) (hb : RB x.1) (k : Nat) (hk : k < 9) (r : List Bytes) (hr : ∀ w ∈ r, w ≠ []) :
    (rightM k (r.map numM) = false ∧ lineK x k r = none) ∨ (rightM k (r.map numM) = true ∧ ∃ z, lineK x k r = some z ∧ mirR z = (mirR x.1).put k (r.map numM) ∧ RB z) := by
  have one : ∀ (lo hi : Nat) (F : Nat → Vbdbam.Rules), rightM k (r.map numM) = decide ((r.map numM).length = 1 ∧ (lo : Int) ≤ (r.map numM).getD 0 0 ∧ (r.map numM).getD 0 0 ≤ (hi : Int)) →
      lineK x k r = (match r.map (numberIn lo hi) with | [some n] => some (F n) | _ => none) → (∀ n : Nat, lo ≤ n → n ≤ hi → RB (F n)) → (∀ ns : List Int, 0 ≤ ns.getD 0 0 → mirR (F (ns.getD 0 0).toNat) = (mirR x.1).put k ns) →
      (rightM k (r.map numM) = false ∧ lineK x k r = none) ∨ (rightM k (r.map numM) = true ∧ ∃ z, lineK x k r = some z ∧ mirR z = (mirR x.1).put k (r.map numM) ∧ RB z) := by
    intro lo hi F h1 h2 h3 h4
    have h2' := h2.trans (one_word r hr lo hi F)
    rw [h2', h1]
    by_cases c : (r.map numM).length = 1 ∧ (lo : Int) ≤ (r.map numM).getD 0 0 ∧ (r.map numM).getD 0 0 ≤ (hi : Int)
    · rw [if_pos c, decide_eq_true c]
      exact .inr ⟨rfl, _, rfl, h4 _ (by omega), h3 _ (by omega) (by omega)⟩
    · rw [if_neg c, decide_eq_false c]
      exact .inl ⟨rfl, rfl⟩
  have c : k = 0 ∨ k = 1 ∨ k = 2 ∨ k = 3 ∨ k = 4 ∨ k = 5 ∨ k = 6 ∨ k = 7 ∨ k = 8 := by omega
  rcases c with e | e | e | e | e | e | e | e | e <;> subst e
  · refine one 2 60 (fun n => { x.1 with places := n }) (right_one 2 60 0 rfl (by decide) (by decide) _) rfl (fun n a b => { hb with p1 := a, p2 := b }) fun ns h => ?_
    show MR.mk (((ns.getD 0 0).toNat : Nat) : Int) _ _ _ _ _ _ _ _ _ = MR.mk (ns.getD 0 0) _ _ _ _ _ _ _ _ _
    rw [Int.toNat_of_nonneg h]
    rfl
  · rw [right_form]
    have key : ∀ d : Nat, d ≤ 9 → ((r.map numM).length = 1 ∧ (r.map numM).getD 0 0 = (d : Int) ↔ r = [[48 + d]]) := by
      intro d hd
      match r, hr with
      | [], _ => simp
      | [w], h =>
        have := numM_one (h w (by simp)) hd
        constructor
        · rintro ⟨_, q⟩
          have q' : numM w = (d : Int) := q
          rw [this.mp q']
        · intro q
          have q' : w = [48 + d] := by simpa using q
          exact ⟨rfl, this.mpr q'⟩
      | a :: b :: r', _ => simp
    have k2 := key 2 (by decide)
    have k4 := key 4 (by decide)
    show _ ∨ (_ ∧ ∃ z, (if r = [[50]] then some { x.1 with form := 2 } else if r = [[52]] then some { x.1 with form := 4 } else none) = some z ∧ _)
    by_cases c2 : r = [[50]]
    · obtain ⟨a, b⟩ := k2.mpr c2
      refine .inr ⟨decide_eq_true ⟨a, .inl b⟩, _, if_pos c2, ?_, { hb with f := .inl rfl }⟩
      show MR.mk _ (((2 : Nat)) : Int) _ _ _ _ _ _ _ _ = MR.mk _ ((r.map numM).getD 0 0) _ _ _ _ _ _ _ _
      rw [b]
      rfl
    · by_cases c4 : r = [[52]]
      · obtain ⟨a, b⟩ := k4.mpr c4
        refine .inr ⟨decide_eq_true ⟨a, .inr b⟩, _, (if_neg c2).trans (if_pos c4), ?_, { hb with f := .inr rfl }⟩
        show MR.mk _ (((4 : Nat)) : Int) _ _ _ _ _ _ _ _ = MR.mk _ ((r.map numM).getD 0 0) _ _ _ _ _ _ _ _
        rw [b]
        rfl
      · refine .inl ⟨decide_eq_false ?_, (if_neg c2).trans (if_neg c4)⟩
        rintro ⟨a, b | b⟩
        · exact c2 (k2.mp ⟨a, b⟩)
        · exact c4 (k4.mp ⟨a, b⟩)
  · refine one 1 9 (fun n => { x.1 with cap := n }) (right_one 1 9 2 rfl (by decide) (by decide) _) rfl (fun n a b => { hb with c1 := a, c2 := b }) fun ns h => ?_
    show MR.mk _ _ (((ns.getD 0 0).toNat : Nat) : Int) _ _ _ _ _ _ _ = MR.mk _ _ (ns.getD 0 0) _ _ _ _ _ _ _
    rw [Int.toNat_of_nonneg h]
    rfl
  · rw [right_two]
    have h2 := (show lineK x 3 r = _ from rfl).trans (two_words r hr (fun a b => ({ x.1 with judges := a, per := b } : Vbdbam.Rules)))
    rw [h2]
    by_cases c : (r.map numM).length = 2 ∧ (0 ≤ (r.map numM).getD 0 0 ∧ (r.map numM).getD 0 0 ≤ 9) ∧ 1 ≤ (r.map numM).getD 1 0 ∧ (r.map numM).getD 1 0 ≤ 9
    · refine .inr ⟨decide_eq_true c, _, if_pos c, ?_, { hb with j := by show ((r.map numM).getD 0 0).toNat ≤ 9; omega, per1 := by show 1 ≤ ((r.map numM).getD 1 0).toNat; omega, per2 := by show ((r.map numM).getD 1 0).toNat ≤ 9; omega }⟩
      show MR.mk _ _ _ ((((r.map numM).getD 0 0).toNat : Nat) : Int) ((((r.map numM).getD 1 0).toNat : Nat) : Int) _ _ _ _ _ = MR.mk _ _ _ ((r.map numM).getD 0 0) ((r.map numM).getD 1 0) _ _ _ _ _
      rw [Int.toNat_of_nonneg c.2.1.1, Int.toNat_of_nonneg (by omega)]
      rfl
    · exact .inl ⟨decide_eq_false c, if_neg c⟩
  · refine one 0 9999 (fun n => { x.1 with fee := n }) (right_one 0 9999 4 rfl (by decide) (by decide) _) rfl (fun n a b => { hb with fee := b }) fun ns h => ?_
    show MR.mk _ _ _ _ _ (((ns.getD 0 0).toNat : Nat) : Int) _ _ _ _ = MR.mk _ _ _ _ _ (ns.getD 0 0) _ _ _ _
    rw [Int.toNat_of_nonneg h]
    rfl
  · refine one 0 9999 (fun n => { x.1 with fine := n }) (right_one 0 9999 5 rfl (by decide) (by decide) _) rfl (fun n a b => { hb with fine := b }) fun ns h => ?_
    show MR.mk _ _ _ _ _ _ (((ns.getD 0 0).toNat : Nat) : Int) _ _ _ = MR.mk _ _ _ _ _ _ (ns.getD 0 0) _ _ _
    rw [Int.toNat_of_nonneg h]
    rfl
  · refine one 1 30 (fun n => { x.1 with answer := n }) (right_one 1 30 6 rfl (by decide) (by decide) _) rfl (fun n a b => { hb with a1 := a, a2 := b }) fun ns h => ?_
    show MR.mk _ _ _ _ _ _ _ (((ns.getD 0 0).toNat : Nat) : Int) _ _ = MR.mk _ _ _ _ _ _ _ (ns.getD 0 0) _ _
    rw [Int.toNat_of_nonneg h]
    rfl
  · refine one 1 200 (fun n => { x.1 with start := n }) (right_one 1 200 7 rfl (by decide) (by decide) _) rfl (fun n a b => { hb with s1 := a, s2 := b }) fun ns h => ?_
    show MR.mk _ _ _ _ _ _ _ _ (((ns.getD 0 0).toNat : Nat) : Int) _ = MR.mk _ _ _ _ _ _ _ _ (ns.getD 0 0) _
    rw [Int.toNat_of_nonneg h]
    rfl
  · have h2 := (show lineK x 8 r = _ from rfl).trans (back_words r hr (fun l => ({ x.1 with back := l } : Vbdbam.Rules)))
    rw [h2]
    have h1 : rightM 8 (r.map numM) = pairsM (r.map numM) := rfl
    rw [h1]
    by_cases c : pairsM (r.map numM) = true
    · have c' := c
      unfold pairsM at c'
      rw [Bool.and_eq_true] at c'
      have hodd : ¬ (r.map numM).length % 2 = 1 ∧ ¬ 12 < (r.map numM).length := by
        have := c'.1
        rw [Bool.not_eq_true', Bool.or_eq_false_iff] at this
        exact ⟨of_decide_eq_false this.1, of_decide_eq_false this.2⟩
      have hev : (r.map numM).length % 2 = 0 := by omega
      have hc := c'.2
      rw [all_pairs _ hev] at hc
      have hbd := chk_bounds _ hev hc
      have hcast : ((r.map numM).map Int.toNat).map (fun (n : Nat) => (n : Int)) = r.map numM := by
        rw [List.map_map]
        conv => rhs; rw [← List.map_id (r.map numM)]
        apply List.map_congr_left
        intro n hn
        have := hbd n hn
        show ((n.toNat : Nat) : Int) = n
        omega
      refine .inr ⟨c, _, if_pos c, ?_, { hb with bl := ?_, b := ?_ }⟩
      · show MR.mk _ _ _ _ _ _ _ _ _ (flatB (Vbdbam.pairsOf ((r.map numM).map Int.toNat))) = MR.mk _ _ _ _ _ _ _ _ _ (r.map numM)
        rw [flat_pairs _ (by rw [List.length_map]; exact hev), hcast]
        rfl
      · have := pairs_len ((r.map numM).map Int.toNat)
        rw [List.length_map] at this
        show (Vbdbam.pairsOf ((r.map numM).map Int.toNat)).length ≤ 6
        omega
      · have hp := (pairs_ok ((r.map numM).map Int.toNat) (by rw [List.length_map]; exact hev) (fun n hn => by
          obtain ⟨m, hm, rfl⟩ := List.mem_map.mp hn
          have := hbd m hm
          omega)).mp (by rw [hcast]; exact hc)
        intro p hp2
        have h2 := List.all_eq_true.mp hp.2 p hp2
        refine ⟨?_, of_decide_eq_true h2⟩
        have mem : ∀ (l : List Nat) (p : Nat × Nat), p ∈ Vbdbam.pairsOf l → p.1 ∈ l := by
          intro l
          induction l using Vbdbam.pairsOf.induct with
          | case1 a b r ih =>
            intro p hp
            rcases List.mem_cons.mp (show p ∈ (a, b) :: Vbdbam.pairsOf r from hp) with e | e
            · rw [e]; simp
            · simp [ih p e]
          | case2 l h =>
            intro p hp
            have : Vbdbam.pairsOf l = [] := by
              match l, h with
              | [], _ => rfl
              | [_], _ => rfl
              | a :: b :: r, h => exact absurd rfl (h a b r)
            rw [this] at hp
            cases hp
        obtain ⟨m, hm, e⟩ := List.mem_map.mp (mem _ p hp2)
        have := hbd m hm
        omega
    · exact .inl ⟨by simpa using c, if_neg c⟩
theorem words_ne (l : Bytes) : ∀ w ∈ Vbdbam.words l, w ≠ [] := fun w h => by
  unfold Vbdbam.words at h
  have := (List.mem_filter.mp h).2
  intro z
  rw [z] at this
  cases this
theorem row_is {x : Vbdbam.Rules × List Bytes} {r : MR} {told : List Nat} (R : LRel x r told) (n : Nat) (l : Bytes) (h : Vbdbam.words l ≠ []) : LineR n (Vbdbam.lineOf x l) (rowM r told (Vbdbam.words l)) := by
  have hne := words_ne l
  match e : Vbdbam.words l, h with
  | w :: ws, _ =>
    rw [e] at hne
    unfold rowM
    by_cases c : ∃ k, k < 9 ∧ w = kindAt k
    · obtain ⟨k, hk, rfl⟩ := c
      rw [lineOf_kind x l k hk ws e]
      show LineR n _ (match kindsOf (kindAt k) with | [] => _ | k :: _ => _)
      rw [kinds_self k hk]
      unfold lineX
      show LineR n _ (if told.contains k = true then .error 2 else if rightM k (ws.map numM) = false then .error 3 else .ok (r.put k (ws.map numM), told ++ [k]))
      rw [R.told_ k hk]
      by_cases d : x.2.contains (kindAt k) = true
      · rw [if_pos d, if_pos d]
        rfl
      · rw [if_neg d, if_neg d]
        rcases kind_is x R.rb k hk ws (fun v hv => hne v (by simp [hv])) with ⟨a, b⟩ | ⟨a, z, b, b2, b3⟩
        · rw [if_pos a, b]
          rfl
        · rw [if_neg (by rw [a]; decide), b]
          refine ⟨?_, b3, fun j hj => ?_, fun j hj => ?_⟩
          · show r.put k _ = mirR z
            rw [b2, R.eq]
          · show (told ++ [k]).contains j = (kindAt k :: x.2).contains (kindAt j)
            have h1 := R.told_ j hj
            rw [List.contains_cons]
            by_cases q : j = k
            · subst q
              simp
            · have q2 : ¬ kindAt j = kindAt k := kn j k hj hk q
              have e1 : (kindAt j == kindAt k) = false := beq_eq_false_iff_ne.mpr q2
              rw [e1, Bool.false_or, ← h1]
              rw [Bool.eq_iff_iff]
              simp [q]
          · rcases List.mem_append.mp hj with q | q
            · exact R.few j q
            · have : j = k := by simpa using q
              omega
    · have hn := kinds_none (w := w) fun k hk q => c ⟨k, hk, q⟩
      rw [lineOf_none x l w ws e hn.2]
      show LineR n (.error 1) (match kindsOf w with | [] => .error 1 | k :: _ => _)
      rw [hn.1]
      rfl
def RulesR : Except (Nat × Nat) Vbdbam.Rules → Except (Int × Int) MR → Prop
  | .error e, .error e' => ((e.1 : Int), (e.2 : Int)) = e'
  | .ok y, .ok z => z = mirR y ∧ RB y
  | _, _ => False
theorem lines_is : ∀ (ls : List Bytes) (n : Nat) {x : Vbdbam.Rules × List Bytes} {r : MR} {told : List Nat}, LRel x r told → RulesR (Vbdbam.linesOf n x ls) (linesM n r told ls)
  | [], n, x, r, told, R => ⟨R.eq, R.rb⟩
  | l :: rest, n, x, r, told, R => by
    unfold Vbdbam.linesOf linesM
    by_cases h : Vbdbam.words l = []
    · rw [lineOf_nil x l h, if_pos h]
      exact lines_is rest (n + 1) R
    · rw [if_neg h]
      have := row_is R n l h
      cases e1 : Vbdbam.lineOf x l with
      | error a =>
        cases e2 : rowM r told (Vbdbam.words l) with
        | error b =>
          rw [e1, e2] at this
          have q : (a : Int) = b := this
          show ((a : Int), (n : Int)) = (b, (n : Int))
          rw [q]
        | ok z => rw [e1, e2] at this; exact this.elim
      | ok y =>
        cases e2 : rowM r told (Vbdbam.words l) with
        | error b => rw [e1, e2] at this; exact this.elim
        | ok z =>
          rw [e1, e2] at this
          exact lines_is rest (n + 1) this
theorem rules_is (t : Bytes) : RulesR (Vbdbam.rulesOf t) (rulesM t) :=
  lines_is (Vbdbam.cut 10 t) 1 ⟨rfl, start_inv.rb, fun k _ => rfl, fun k h => by cases h⟩
theorem okText_is (row : List Int) : okText row = Vbdbam.isText row Vbdbam.MOSTTEXT := by
  unfold okText Vbdbam.isText
  have e1 : (!decide ((row.length : Int) > 1000)) = decide (row.length ≤ Vbdbam.MOSTTEXT) := by
    rw [← decide_not]
    exact decide_eq_decide.mpr (by show _ ↔ row.length ≤ 1000; omega)
  have e2 : row.all (fun b => decide (0 ≤ b) && decide (b ≤ 255)) = row.all (fun z => Vbdbam.inside z 0 255) := rfl
  rw [Bool.not_or, e1, Bool.not_not, e2]
theorem putRules_is {s : SS} (I : SInv s) (row : List Int) : Ok1 s (putRulesM (mir s) row) (Vbdbam.step s (.rules row)) := by
  unfold putRulesM
  show Ok1 s _ (if Vbdbam.isText row Vbdbam.MOSTTEXT = false then Vbdbam.no s (-1) else if s.schools ≠ [] ∨ s.day ≠ 0 ∨ s.closed = true then Vbdbam.no s (-4) else (match Vbdbam.rulesOf (Vbdbam.nats row) with
      | .error e => (s, ⟨1, [Vbdbam.ints [e.1, e.2]]⟩)
      | .ok r => ({ s with rules := r }, ⟨0, [Vbdbam.ints [r.places, r.form, r.cap, r.judges, r.per, r.fee, r.fine, r.answer, r.start]]⟩)))
  refine Ok1.ref I (by rw [okText_is]; cases Vbdbam.isText row Vbdbam.MOSTTEXT <;> rfl) fun _ => ?_
  have hemp : (mir s).schools.isEmpty = s.schools.isEmpty := by
    have h1 : (mir s).schools.length = s.schools.length := schs_len s
    cases e1 : (mir s).schools with
    | nil =>
      rw [e1] at h1
      cases e2 : s.schools with
      | nil => rfl
      | cons a b => rw [e2] at h1; cases h1
    | cons a b =>
      rw [e1] at h1
      cases e2 : s.schools with
      | nil => rw [e2] at h1; cases h1
      | cons a b => rfl
  refine Ok1.ref I (c := s.schools ≠ [] ∨ s.day ≠ 0 ∨ s.closed = true) ?_ fun hc => ?_
  · rw [hemp]
    have a1 : (!s.schools.isEmpty) = decide (s.schools ≠ []) := by cases s.schools <;> rfl
    have a2 : (!decide ((mir s).day = 0)) = decide (s.day ≠ 0) := by
      rw [← decide_not]
      exact decide_eq_decide.mpr (by show ¬ ((s.day : Nat) : Int) = 0 ↔ _; omega)
    have a3 : (mir s).closed = decide (s.closed = true) := by show s.closed = _; cases s.closed <;> rfl
    rw [a1, a2, a3]
    rw [Bool.eq_iff_iff]
    simp
  have hR := rules_is (Vbdbam.nats row)
  have en : row.map Int.toNat = Vbdbam.nats row := rfl
  rw [en]
  cases e1 : Vbdbam.rulesOf (Vbdbam.nats row) with
  | error a =>
    cases e2 : rulesM (Vbdbam.nats row) with
    | error b =>
      rw [e1, e2] at hR
      have q : ((a.1 : Int), (a.2 : Int)) = b := hR
      refine ⟨pair_eq rfl ?_, I⟩
      rw [← q]
      rfl
    | ok z => rw [e1, e2] at hR; exact hR.elim
  | ok y =>
    cases e2 : rulesM (Vbdbam.nats row) with
    | error b => rw [e1, e2] at hR; exact hR.elim
    | ok z =>
      rw [e1, e2] at hR
      obtain ⟨hz, hb⟩ := (show z = mirR y ∧ RB y from hR)
      have hs : s.schools = [] := Classical.byContradiction fun q => hc (.inl q)
      have ho : s.offers = [] := by
        cases q : s.offers with
        | nil => rfl
        | cons o r =>
          have := I.offS o (by rw [q]; simp)
          rw [hs] at this
          exact absurd this (Nat.not_lt_zero _)
      refine ⟨pair_eq ?_ ?_, ?_⟩
      · show ({ mir s with rules := z } : M) = mir { s with rules := y }
        rw [hz]
        rfl
      · show 0 :: z.rows.dropLast.flatten = _
        rw [hz]
        rfl
      · refine ⟨hb, I.ids, I.few, I.fit, I.small, I.offS, I.offN, I.offL, ?_, I.mon⟩
        unfold Vbdbam.used
        show Vbdbam.total (s.schools.map fun x => x.has_) + s.offers.length ≤ y.places
        rw [hs, ho]
        exact Nat.zero_le _

/-! ### shown -/
theorem text_nat (n : Nat) : Vbdbam.text (toString ((n : Nat) : Int)) = Vbdbam.decimal n := rfl
theorem flatB_map (l : List (Nat × Nat)) : (flatB l).map (fun n => Vbdbam.text (toString n)) = l.flatMap fun p => [Vbdbam.decimal p.1, Vbdbam.decimal p.2] := by
  induction l with
  | nil => rfl
  | cons p r ih =>
    show Vbdbam.text (toString ((p.1 : Nat) : Int)) :: Vbdbam.text (toString ((p.2 : Nat) : Int)) :: (flatB r).map (fun n => Vbdbam.text (toString n)) = Vbdbam.decimal p.1 :: Vbdbam.decimal p.2 :: r.flatMap fun p => [Vbdbam.decimal p.1, Vbdbam.decimal p.2]
    rw [ih, text_nat, text_nat]
theorem shown_is (v : Vbdbam.Rules) : shownM (mirR v) = Vbdbam.ints (Vbdbam.rulesText v) := by
  unfold shownM Vbdbam.ints Vbdbam.rulesText
  obtain ⟨⟨t0, t1, t2, t3, t4⟩, t5, t6, t7, t8⟩ := kt
  rw [← t0, ← t1, ← t2, ← t3, ← t4, ← t5, ← t6, ← t7, ← t8, ← flatB_map]
  rfl
theorem show_is {s : SS} (I : SInv s) : Ok1 s (.ok (mir s, ((shownM (mir s).rules).length : Int) :: shownM (mir s).rules)) (Vbdbam.step s .show_) := by
  refine ⟨pair_eq rfl ?_, I⟩
  have e : shownM (mir s).rules = Vbdbam.ints (Vbdbam.rulesText s.rules) := shown_is s.rules
  rw [e]
  show _ = (((Vbdbam.rulesText s.rules).length : Nat) : Int) :: [Vbdbam.ints (Vbdbam.rulesText s.rules)].flatten
  simp only [List.flatten_cons, List.flatten_nil, List.append_nil]
  unfold Vbdbam.ints
  rw [List.length_map]
end Eh

-- EhM9
set_option Elab.async false
set_option linter.all false
namespace Eh
open VbdbamNeutral (flatAns)

/-! ### the list of calls -/
def NUMS : List Nat := [0, 0, 0, 3, 2, 2, 1, 1, 2, 2, 2, 1, 1, 0, 1, 1, 0, 0, 0, 0]
def arity (p : Int) : Nat := NUMS.getD p.toNat 0
structure Reads (l : List Int) (p : Int) (ns row rest : List Int) : Prop where
  p0 : 0 ≤ p
  p1 : p ≤ 19
  len : ns.length = arity p
  row0 : p ≠ 1 → row = []
  eq : l = p :: (ns ++ ((if p = 1 then [(row.length : Int)] else []) ++ (row ++ rest)))
def callC (p : Int) (ns row : List Int) : List (List Int) := (p :: ns) :: if p = 1 then [row] else []
theorem shape_is {p : Int} {x : Nat × Nat} (h : PyVbdbam.shape p = some x) : (0 ≤ p ∧ p ≤ 19) ∧ x = (arity p, if p = 1 then 1 else 0) := by
  unfold PyVbdbam.shape at h
  have c : p = 0 ∨ p = 1 ∨ p = 2 ∨ p = 3 ∨ p = 4 ∨ p = 5 ∨ p = 6 ∨ p = 7 ∨ p = 8 ∨ p = 9 ∨ p = 10 ∨ p = 11 ∨ p = 12 ∨ p = 13 ∨ p = 14 ∨ p = 15 ∨ p = 16 ∨ p = 17 ∨ p = 18 ∨ p = 19 ∨ ¬ (0 ≤ p ∧ p ≤ 19) := by omega
  rcases c with c | c | c | c | c | c | c | c | c | c | c | c | c | c | c | c | c | c | c | c | c
  case inr.inr.inr.inr.inr.inr.inr.inr.inr.inr.inr.inr.inr.inr.inr.inr.inr.inr.inr.inr =>
    rw [if_neg (by omega), if_neg (by omega), if_neg (by omega), if_neg (by omega), if_neg (by omega), if_neg (by omega), if_neg (by omega), if_neg (by omega), if_neg (by omega), if_neg (by omega), if_neg (by omega), if_neg (by omega), if_neg (by omega), if_neg (by omega), if_neg (by omega), if_neg (by omega), if_neg (by omega), if_neg (by omega), if_neg (by omega), if_neg (by omega)] at h
    cases h
  all_goals
    subst c
    exact ⟨⟨by decide, by decide⟩, (Option.some.inj h).symm⟩
theorem decode_step {f : Nat} {l : List Int} {raw : List (List (List Int))} (hl : l ≠ []) (h : PyFlat.calls PyVbdbam.shape f l = some raw) :
    ∃ f' p ns row rest cs, f = f' + 1 ∧ Reads l p ns row rest ∧ raw = callC p ns row :: cs ∧ PyFlat.calls PyVbdbam.shape f' rest = some cs := by
  match f, l, hl with
  | 0, p :: r, _ => cases h
  | f' + 1, p :: r, _ =>
    unfold PyFlat.calls at h
    cases e1 : PyFlat.call PyVbdbam.shape (p :: r) with
    | none => rw [e1] at h; cases h
    | some x =>
      obtain ⟨c, t⟩ := x
      rw [e1] at h
      cases e2 : PyFlat.calls PyVbdbam.shape f' t with
      | none =>
        have h' : (match PyFlat.calls PyVbdbam.shape f' t with | none => none | some cs => some (c :: cs)) = some raw := h
        rw [e2] at h'; cases h'
      | some cs =>
        have h' : (match PyFlat.calls PyVbdbam.shape f' t with | none => none | some cs => some (c :: cs)) = some raw := h
        rw [e2] at h'
        have hraw : raw = c :: cs := (Option.some.inj h').symm
        unfold PyFlat.call at e1
        cases e3 : PyVbdbam.shape p with
        | none =>
          have e1' : (match PyVbdbam.shape p with | none => none | some (n, k) => if r.length < n then none else match PyFlat.rows k (r.drop n) with | none => none | some (xs, t) => some ((p :: r.take n) :: xs, t)) = some (c, t) := e1
          rw [e3] at e1'; cases e1'
        | some y =>
          obtain ⟨⟨q0, q1⟩, hy⟩ := shape_is e3
          have e1' : (match PyVbdbam.shape p with | none => none | some (n, k) => if r.length < n then none else match PyFlat.rows k (r.drop n) with | none => none | some (xs, t) => some ((p :: r.take n) :: xs, t)) = some (c, t) := e1
          rw [e3, hy] at e1'
          have e4 : (if r.length < arity p then none else match PyFlat.rows (if p = 1 then 1 else 0) (r.drop (arity p)) with | none => none | some (xs, t) => some ((p :: r.take (arity p)) :: xs, t)) = some (c, t) := e1'
          by_cases hlen : r.length < arity p
          · rw [if_pos hlen] at e4; cases e4
          · rw [if_neg hlen] at e4
            by_cases c1 : p = 1
            · rw [if_pos c1] at e4
              have a0 : arity p = 0 := by rw [c1]; rfl
              rw [a0] at e4
              have e5 : (match PyFlat.rows 1 r with | none => none | some (xs, t) => some ((p :: []) :: xs, t)) = some (c, t) := e4
              unfold PyFlat.rows at e5
              match r, e5 with
              | [], e5 => cases e5
              | n :: r', e5 =>
                have e6 : (match (match (if 0 ≤ n ∧ n.toNat ≤ r'.length then some (r'.take n.toNat, r'.drop n.toNat) else none) with | none => none | some (x, s) => match PyFlat.rows 0 s with | none => none | some (xs, t) => some (x :: xs, t)) with | none => none | some (xs, t) => some ((p :: []) :: xs, t)) = some (c, t) := e5
                by_cases c2 : 0 ≤ n ∧ n.toNat ≤ r'.length
                · rw [if_pos c2] at e6
                  have e7 : some ((p :: []) :: [r'.take n.toNat], r'.drop n.toNat) = some (c, t) := e6
                  injection e7 with e8
                  injection e8 with e9 e10
                  refine ⟨f', p, [], r'.take n.toNat, r'.drop n.toNat, cs, rfl, ⟨q0, q1, a0.symm, fun z => absurd c1 z, ?_⟩, ?_, ?_⟩
                  · rw [if_pos c1, List.length_take, Nat.min_eq_left c2.2, Int.toNat_of_nonneg c2.1]
                    show p :: n :: r' = p :: n :: (r'.take n.toNat ++ r'.drop n.toNat)
                    rw [List.take_append_drop]
                  · rw [hraw, ← e9]
                    unfold callC
                    rw [if_pos c1]
                  · rw [e10]; exact e2
                · rw [if_neg c2] at e6; cases e6
            · rw [if_neg c1] at e4
              have e5 : some ((p :: r.take (arity p)) :: [], r.drop (arity p)) = some (c, t) := e4
              injection e5 with e8
              injection e8 with e9 e10
              refine ⟨f', p, r.take (arity p), [], r.drop (arity p), cs, rfl, ⟨q0, q1, ?_, fun _ => rfl, ?_⟩, ?_, ?_⟩
              · rw [List.length_take]; omega
              · rw [if_neg c1]
                show p :: r = p :: (r.take (arity p) ++ ([] ++ ([] ++ r.drop (arity p))))
                rw [List.nil_append, List.nil_append, List.take_append_drop]
              · rw [hraw, ← e9]
                unfold callC
                rw [if_neg c1]
              · rw [e10]; exact e2
theorem len0 {l : List Int} (h : l.length = 0) : l = [] := List.length_eq_zero_iff.mp h
theorem len1 {l : List Int} (h : l.length = 1) : ∃ a, l = [a] := by
  match l, h with
  | [a], _ => exact ⟨a, rfl⟩
theorem len2 {l : List Int} (h : l.length = 2) : ∃ a b, l = [a, b] := by
  match l, h with
  | [a, b], _ => exact ⟨a, b, rfl⟩
theorem len3 {l : List Int} (h : l.length = 3) : ∃ a b c, l = [a, b, c] := by
  match l, h with
  | [a, b, c], _ => exact ⟨a, b, c, rfl⟩
theorem step_is {s : SS} (I : SInv s) {p : Int} {ns row : List Int} (p0 : 0 ≤ p) (p1 : p ≤ 19) (hn : ns.length = arity p) (hr : p ≠ 1 → row = []) :
    answerM (mir s) p ns row = (mir (VbdbamNeutral.step s (PyVbdbam.whole (callC p ns row))).1, (VbdbamNeutral.step s (PyVbdbam.whole (callC p ns row))).2) ∧ SInv (VbdbamNeutral.step s (PyVbdbam.whole (callC p ns row))).1 := by
  rw [answerM_eq]
  have c : p = 0 ∨ p = 1 ∨ p = 2 ∨ p = 3 ∨ p = 4 ∨ p = 5 ∨ p = 6 ∨ p = 7 ∨ p = 8 ∨ p = 9 ∨ p = 10 ∨ p = 11 ∨ p = 12 ∨ p = 13 ∨ p = 14 ∨ p = 15 ∨ p = 16 ∨ p = 17 ∨ p = 18 ∨ p = 19 := by omega
  rcases c with c | c | c | c | c | c | c | c | c | c | c | c | c | c | c | c | c | c | c | c <;> subst c
  · obtain rfl := len0 hn; obtain rfl := hr (by decide); exact ⟨(clear_is I).eq, (clear_is I).inv⟩
  · obtain rfl := len0 hn; exact ⟨(putRules_is I row).eq, (putRules_is I row).inv⟩
  · obtain rfl := len0 hn; obtain rfl := hr (by decide); exact ⟨(show_is I).eq, (show_is I).inv⟩
  · obtain ⟨a, b, d, rfl⟩ := len3 hn; obtain rfl := hr (by decide); exact ⟨(enter_is I a b d).eq, (enter_is I a b d).inv⟩
  · obtain ⟨a, b, rfl⟩ := len2 hn; obtain rfl := hr (by decide); exact ⟨(want_is I a b).eq, (want_is I a b).inv⟩
  · obtain ⟨a, b, rfl⟩ := len2 hn; obtain rfl := hr (by decide); exact ⟨(bring_is I a b).eq, (bring_is I a b).inv⟩
  · obtain ⟨a, rfl⟩ := len1 hn; obtain rfl := hr (by decide); exact ⟨(accept_is I a).eq, (accept_is I a).inv⟩
  · obtain ⟨a, rfl⟩ := len1 hn; obtain rfl := hr (by decide); exact ⟨(decline_is I a).eq, (decline_is I a).inv⟩
  · obtain ⟨a, b, rfl⟩ := len2 hn; obtain rfl := hr (by decide); exact ⟨(drop_is I a b).eq, (drop_is I a b).inv⟩
  · obtain ⟨a, b, rfl⟩ := len2 hn; obtain rfl := hr (by decide); exact ⟨(transfer_is I a b).eq, (transfer_is I a b).inv⟩
  · obtain ⟨a, b, rfl⟩ := len2 hn; obtain rfl := hr (by decide); exact ⟨(pay_is I a b).eq, (pay_is I a b).inv⟩
  · obtain ⟨a, rfl⟩ := len1 hn; obtain rfl := hr (by decide); exact ⟨(payout_is I a).eq, (payout_is I a).inv⟩
  · obtain ⟨a, rfl⟩ := len1 hn; obtain rfl := hr (by decide); exact ⟨(nightC_is I a).eq, (nightC_is I a).inv⟩
  · obtain rfl := len0 hn; obtain rfl := hr (by decide); exact ⟨(close_is I).eq, (close_is I).inv⟩
  · obtain ⟨a, rfl⟩ := len1 hn; obtain rfl := hr (by decide); exact ⟨(school_is I a).eq, (school_is I a).inv⟩
  · obtain ⟨a, rfl⟩ := len1 hn; obtain rfl := hr (by decide); exact ⟨(account_call I a).eq, (account_call I a).inv⟩
  · obtain rfl := len0 hn; obtain rfl := hr (by decide); exact ⟨(offers_is I).eq, (offers_is I).inv⟩
  · obtain rfl := len0 hn; obtain rfl := hr (by decide); exact ⟨(queueC_is I).eq, (queueC_is I).inv⟩
  · obtain rfl := len0 hn; obtain rfl := hr (by decide); exact ⟨(moneyC_is I).eq, (moneyC_is I).inv⟩
  · obtain rfl := len0 hn; obtain rfl := hr (by decide); exact ⟨(counts_is I).eq, (counts_is I).inv⟩

/-! ### what the walk is handed -/
/-- a state that the specification can come to -/
def Good (m : M) : Prop := ∃ s : SS, SInv s ∧ m = mir s
/-- from m the list l is answered by out -/
inductive Run : List Int → M → List Int → Prop
  | done (m : M) : Run [] m []
  | call {l : List Int} {m : M} {p : Int} {ns row rest out : List Int} : Good m → Reads l p ns row rest → Run rest (answerM m p ns row).1 out → Run l m ((((answerM m p ns row).2.length : Nat) : Int) :: ((answerM m p ns row).2 ++ out))
theorem run_of : ∀ (f : Nat) (l : List Int) (raw : List (List (List Int))) (s : SS), SInv s → PyFlat.calls PyVbdbam.shape f l = some raw → Run l (mir s) (PyFlat.told (PyFlat.played VbdbamNeutral.step s (raw.map PyVbdbam.whole)))
  | f, [], raw, s, I, h => by
    have : raw = [] := by
      unfold PyFlat.calls at h
      exact (Option.some.inj h).symm
    rw [this]
    exact .done _
  | f, p :: r, raw, s, I, h => by
    obtain ⟨f', q, ns, row, rest, cs, hf, R, hraw, hcs⟩ := decode_step (by simp) h
    obtain ⟨e, I2⟩ := step_is I R.p0 R.p1 R.len R.row0
    rw [hraw]
    have ih := run_of f' rest cs _ I2 hcs
    have e1 : (answerM (mir s) q ns row).1 = mir (VbdbamNeutral.step s (PyVbdbam.whole (callC q ns row))).1 := by rw [e]
    have e2 : (answerM (mir s) q ns row).2 = (VbdbamNeutral.step s (PyVbdbam.whole (callC q ns row))).2 := by rw [e]
    rw [← e1] at ih
    have := Run.call ⟨s, I, rfl⟩ R ih
    rw [e2] at this
    exact this
  termination_by f => f
theorem run_all {l : List Int} (h : PyVbdbam.answers_asked l = true) : Run l M.fresh (PyVbdbam.answers l) ∧ (PyVbdbam.answers l).length ≤ 10000000 := by
  unfold PyVbdbam.answers_asked at h
  cases e : PyFlat.calls PyVbdbam.shape l.length l with
  | none =>
    have h' : (match PyFlat.calls PyVbdbam.shape l.length l with | none => false | some raw => !raw.isEmpty && PyFlat.atMost 200 raw && PyInside.calls PyVbdbam.bound raw && VbdbamNeutral.asked (raw.map PyVbdbam.whole) && PyFlat.short 10000000 (PyVbdbam.answers l)) = true := h
    rw [e] at h'; cases h'
  | some raw =>
    have h' : (match PyFlat.calls PyVbdbam.shape l.length l with | none => false | some raw => !raw.isEmpty && PyFlat.atMost 200 raw && PyInside.calls PyVbdbam.bound raw && VbdbamNeutral.asked (raw.map PyVbdbam.whole) && PyFlat.short 10000000 (PyVbdbam.answers l)) = true := h
    rw [e] at h'
    have h2 : (!raw.isEmpty && PyFlat.atMost 200 raw && PyInside.calls PyVbdbam.bound raw && VbdbamNeutral.asked (raw.map PyVbdbam.whole) && PyFlat.short 10000000 (PyVbdbam.answers l)) = true := h'
    rw [Bool.and_eq_true] at h2
    refine ⟨?_, of_decide_eq_true h2.2⟩
    have e3 : PyVbdbam.answers l = PyFlat.told (PyFlat.played VbdbamNeutral.step Vbdbam.start (raw.map PyVbdbam.whole)) := by
      unfold PyVbdbam.answers PyVbdbam.calls
      rw [e]
      rfl
    rw [e3]
    exact run_of _ l raw Vbdbam.start start_inv e
/-! what the walk may know of a state -/
structure Bounds (m : M) : Prop where
  pl : 2 ≤ m.rules.places ∧ m.rules.places ≤ 60
  form : m.rules.form = 2 ∨ m.rules.form = 4
  cap : 1 ≤ m.rules.cap ∧ m.rules.cap ≤ 9
  each : 0 ≤ m.rules.each ∧ m.rules.each ≤ 9
  many : 1 ≤ m.rules.many ∧ m.rules.many ≤ 9
  fee : 0 ≤ m.rules.fee ∧ m.rules.fee ≤ 9999
  fine : 0 ≤ m.rules.fine ∧ m.rules.fine ≤ 9999
  answer : 1 ≤ m.rules.answer ∧ m.rules.answer ≤ 30
  back : m.rules.back.length ≤ 12 ∧ m.rules.back.length % 2 = 0 ∧ ∀ n ∈ m.rules.back, 0 ≤ n ∧ n ≤ 200
  begin_ : 1 ≤ m.rules.begin_ ∧ m.rules.begin_ ≤ 200
  few : m.schools.length ≤ 30
  offs : m.offers.length ≤ 60
  has : ∀ o ∈ m.offers, ∃ i, m.find o.school = some i ∧ i < m.schools.length
theorem flatB_len (l : List (Nat × Nat)) : (flatB l).length = 2 * l.length := by
  induction l with
  | nil => rfl
  | cons p r ih => show (flatB r).length + 1 + 1 = 2 * (r.length + 1); omega
theorem flatB_mem {l : List (Nat × Nat)} {n : Int} (h : n ∈ flatB l) : ∃ p ∈ l, n = (p.1 : Int) ∨ n = (p.2 : Int) := by
  unfold flatB at h
  obtain ⟨p, hp, hn⟩ := List.mem_flatMap.mp h
  exact ⟨p, hp, by simpa using hn⟩
theorem Good.bounds {m : M} (h : Good m) : Bounds m := by
  obtain ⟨s, I, rfl⟩ := h
  have b := I.rb
  refine ⟨?_, ?_, ?_, ?_, ?_, ?_, ?_, ?_, ?_, ?_, ?_, ?_, fun o ho => ?_⟩
  · show (2 : Int) ≤ ((s.rules.places : Nat) : Int) ∧ ((s.rules.places : Nat) : Int) ≤ 60
    have := b.p1; have := b.p2; omega
  · show ((s.rules.form : Nat) : Int) = 2 ∨ ((s.rules.form : Nat) : Int) = 4
    have := b.f; omega
  · show (1 : Int) ≤ ((s.rules.cap : Nat) : Int) ∧ ((s.rules.cap : Nat) : Int) ≤ 9
    have := b.c1; have := b.c2; omega
  · show (0 : Int) ≤ ((s.rules.judges : Nat) : Int) ∧ ((s.rules.judges : Nat) : Int) ≤ 9
    have := b.j; omega
  · show (1 : Int) ≤ ((s.rules.per : Nat) : Int) ∧ ((s.rules.per : Nat) : Int) ≤ 9
    have := b.per1; have := b.per2; omega
  · show (0 : Int) ≤ ((s.rules.fee : Nat) : Int) ∧ ((s.rules.fee : Nat) : Int) ≤ 9999
    have := b.fee; omega
  · show (0 : Int) ≤ ((s.rules.fine : Nat) : Int) ∧ ((s.rules.fine : Nat) : Int) ≤ 9999
    have := b.fine; omega
  · show (1 : Int) ≤ ((s.rules.answer : Nat) : Int) ∧ ((s.rules.answer : Nat) : Int) ≤ 30
    have := b.a1; have := b.a2; omega
  · show (flatB s.rules.back).length ≤ 12 ∧ (flatB s.rules.back).length % 2 = 0 ∧ ∀ n ∈ flatB s.rules.back, 0 ≤ n ∧ n ≤ 200
    have := b.bl
    rw [flatB_len]
    refine ⟨by omega, by omega, fun n hn => ?_⟩
    obtain ⟨p, hp, e⟩ := flatB_mem hn
    have := b.b p hp
    rcases e with e | e <;> omega
  · show (1 : Int) ≤ ((s.rules.start : Nat) : Int) ∧ ((s.rules.start : Nat) : Int) ≤ 200
    have := b.s1; have := b.s2; omega
  · have h1 : (mir s).schools.length = s.schools.length := schs_len s
    rw [h1]; exact I.few
  · have h1 : (mir s).offers.length = s.offers.length := List.length_map _
    rw [h1]
    have := I.room
    unfold Vbdbam.used at this
    have := b.p2
    omega
  · obtain ⟨x, hx, rfl⟩ := List.mem_map.mp ho
    refine ⟨x.school, ?_, ?_⟩
    · rw [mir_find]
      exact placeOf_id I (I.offS x hx)
    · have h1 : (mir s).schools.length = s.schools.length := schs_len s
      rw [h1]; exact I.offS x hx
theorem Good.night {m : M} (h : Good m) : Good m.passNight := by
  obtain ⟨s, I, rfl⟩ := h
  exact ⟨_, (night_is I).2, (night_is I).1⟩
theorem Good.lapsed {m : M} (h : Good m) : Good (M.lapse { m with day := m.day + 1 }) := by
  obtain ⟨s, I, rfl⟩ := h
  have I1 : SInv { s with day := s.day + 1 } := I.tomorrow
  exact ⟨_, (lapse_is I1).2, (lapse_is I1).1⟩
theorem Good.queue {m : M} (h : Good m) : queueEnds m.rules.cap m.schools 300 m.loads := by
  obtain ⟨s, I, rfl⟩ := h
  exact mir_queueEnds I
theorem Good.sum0 {m : M} (h : Good m) : 0 ≤ m.loads.sum := by
  obtain ⟨s, I, rfl⟩ := h
  rw [mir_loads I, loadsN_sum I.offS]
  omega
theorem good_fresh : Good M.fresh := ⟨Vbdbam.start, start_inv, rfl⟩
/-- rules while they are read -/
structure RBounds (r : MR) : Prop where
  b : Bounds { M.fresh with rules := r }
end Eh

-- EhB
set_option Elab.async false
set_option linter.all false
set_option maxRecDepth 100000
set_option maxHeartbeats 4000000
/-! rules that the layer lacks -/
namespace EhR
open PySem PySem.Spec PyProof.Rows L2
section
variable {X : Cx}
theorem hu64 {A : Around} {k : Nat} (hr : Room k A) : A.units + 64 < cLine := hr.units
/-- a list beside an empty one -/
def rNilC (K : PySem.W.Frag) (neg : Bool) : R2 := fun x y H Q => ∃ a b xs, x = .ref a ∧ y = .ref b ∧ SqL K H a xs ∧ SqL K H b [] ∧ Q (.bl (if neg = true then !xs.isEmpty else xs.isEmpty)) H
theorem op_neNil (hu : X.A.units + 64 < cLine) : OpR X (compareOp .NotEq) (rNilC X.K true) := by
  intro pins s σ H x y v u Q I rx ry h
  obtain ⟨a, b, xs, rfl, rfl, ha, hb, q⟩ := h
  cases rx
  cases ry
  obtain ⟨its, rv, p1, _⟩ := I.list ha
  obtain ⟨its2, rv2, p2, _⟩ := I.list hb
  cases rv2
  have hu' : X.A.units < cLine := by omega
  cases rv with
  | nil =>
    refine SeqAt.RcNeAt.lists (e := fun _ => true) p1.isList p2.isList rfl hu' (fun j h1 _ => absurd h1 (by simp)) X.prog X.w _ _ ?_
    exact ⟨.bl _, H, I, rfl, q⟩
  | cons r t => exact SeqAt.RcNeAt.lists_lengths p1.isList p2.isList (by simp) hu' X.prog X.w _ _ ⟨.bl _, H, I, rfl, q⟩
theorem op_eqNil (hu : X.A.units + 64 < cLine) : OpR X (compareOp .Eq) (rNilC X.K false) := by
  intro pins s σ H x y v u Q I rx ry h
  obtain ⟨a, b, xs, rfl, rfl, ha, hb, q⟩ := h
  cases rx
  cases ry
  obtain ⟨its, rv, p1, _⟩ := I.list ha
  obtain ⟨its2, rv2, p2, _⟩ := I.list hb
  cases rv2
  have hu' : X.A.units < cLine := by omega
  cases rv with
  | nil =>
    refine SeqAt.RcAt.lists (e := fun _ => true) p1.isList p2.isList rfl hu' (fun j h1 _ => absurd h1 (by simp)) X.prog X.w _ _ ?_
    exact ⟨.bl _, H, I, rfl, q⟩
  | cons r t => exact SeqAt.RcAt.lists_lengths p1.isList p2.isList (by simp) hu' X.prog X.w _ _ ⟨.bl _, H, I, rfl, q⟩
/-- xs[i] of a list, 0 ≤ i, by values -/
def gGetL (K : PySem.W.Frag) : V → V → Hp → VK → Prop := fun x y H Q => ∃ p xs i v, x = .ref p ∧ y = .int i ∧ SqL K H p xs ∧ 0 ≤ i ∧ xs[i.toNat]? = some v ∧ Q v H
theorem get_list : PGet X (gGetL X.K) := by
  intro pins s σ H x y v u Q I rx ry h
  obtain ⟨p, xs, i, z, rfl, rfl, hq, h0, he, q⟩ := h
  cases rx
  obtain ⟨t, rfl⟩ := ry
  obtain ⟨its, r, pl, hz⟩ := I.list hq
  obtain ⟨w, ew, rw'⟩ := r.get he
  have hj : i.toNat < xs.length := (List.getElem?_eq_some_iff.mp he).1
  have hn := line63
  exact getItem_listL pl.isList h0 (by omega) ew ⟨z, H, I, rw', q⟩
/-- what a def that may raise lets through -/
theorem passE {P : Program} {w : World} {K : PySem.W.Frag} {mg : Str → Option Value} {base : Heap} {N : List Str} {qual : Str} {scope : Scope} {f : Addr} {cd : Value} {A : Around} {outer : List Env} {s : Shared} {H : Hp} {E : XK} :
    Passes (L2.CX P w) (cxOf (L2.CX P w) P w K mg base N qual scope f cd A outer s H E) E :=
  passes_call (takes_of rfl rfl rfl rfl) fun _ _ _ _ h => h
end
end EhR
/-! zip of a tuple and a list -/
namespace EhZ
open PySem PySem.Spec PyProof.Rows L2 RZ
open PySem.Sem (wp)
set_option maxHeartbeats 4000000
section
variable {prog : Program} {w : World} {A : Around} {E : Value → Shared → Prop} {s : Shared}
theorem zipM_next_item {z TI TO i1 i2 l1 l2 : Addr} {k1 k2 : Nat} {xs ys : Array Value} {x y a b : Value} {Q : Value → Shared → Prop} (D : ZipApart z TI TO i1 i2 l1 l2)
    (hz : IsZip s.heap z TI TO .none) (hTI : IsPair s.heap TI (.ref i1) (.ref i2)) (hTO : IsPair s.heap TO a b)
    (h1 : s.heap.IsTupleIter i1 l1 k1) (h2 : s.heap.IsListIter i2 l2 k2) (hl1 : s.heap.IsTuple l1 xs) (hl2 : s.heap.IsList l2 ys) (hx : xs[k1]? = some x) (hy : ys[k2]? = some y)
    (hQ : ∀ h', IsZip h' z TI TO (rawInt s.heap.objs.size) → IsPair h' TO x y → h'.IsTupleIter i1 l1 (k1 + 1) → h'.IsListIter i2 l2 (k2 + 1) → IsPair h' s.heap.objs.size x y → h'.objs.size = s.heap.objs.size + 1 →
      (∀ c o, c ≠ z → c ≠ TO → c ≠ i1 → c ≠ i2 → s.heap.get? c = some o → h'.get? c = some o) → Q (.ref s.heap.objs.size) { s with heap := h' }) :
    wpAny (model prog w) A (Builtin.«zip.__next__» ⟨[.ref z], []⟩) (fun fin s' => ∃ v, fin = .done (.ret v) ∧ Q v s') E s := by
  show wpAny _ _ (field (.ref z) 2 >>= _) _ _ _
  refine wpAny_bind (wpAny_field hz rfl (x := .bool false) rfl ?_)
  show wpAny _ _ (field (.ref z) 3 >>= _) _ _ _
  refine wpAny_bind (wpAny_field hz rfl (x := .ref TI) rfl ?_)
  refine wpAny_bind (wpAny_seqItems hTI rfl ?_)
  show wpAny _ _ (Builtin.SmallTypes.ownedTupleIsFree (.ref z) >>= _) _ _ _
  refine wpAny_bind ?_
  unfold Builtin.SmallTypes.ownedTupleIsFree
  refine wpAny_bind (wpAny_field hz rfl (x := .none) rfl (wpAny_pure ?_))
  simp only [if_true]
  refine wpAny_bind (wpAny_rule ?_)
  refine wpAny_bind (wpAny_field hz rfl (x := .ref TO) rfl ?_)
  refine wpAny_bind (wpAny_setField_rec hz (by simp) fun h₁ hz₁ hs₁ => ?_)
  replace hz₁ : IsZip h₁ z TI TO .ellipsis := hz₁
  refine wpAny_bind ?_
  simp only [List.zipIdx_cons, List.zipIdx_nil, List.forIn_cons, List.forIn_nil]

  refine wpAny_bind (wpAny_bind (wpAny_onRaise ?_))
  show wpAny _ _ (Builtin.SmallTypes.nextOf (.ref i1) >>= _) _ _ _
  refine wpAny_bind (nextOf_tuple_item (h1.extBut hs₁.extBut D.i1z) (hl1.extBut hs₁.extBut D.l1z) hx fun h₂ h1₂ hs₂ => wpAny_pure ?_)
  have hTO₂ : IsPair h₂ TO a b := hs₂.extBut _ _ D.TOi1 (hs₁.extBut _ _ D.TOz hTO)
  refine wpAny_bind (wpAny_seqItems hTO₂ rfl ?_)
  refine wpAny_bind (wpAny_updateSeq_pair hTO₂ fun h₃ hTO₃ hs₃ => ?_)
  replace hTO₃ : IsPair h₃ TO x b := hTO₃
  refine wpAny_bind (wpAny_letGo (wpAny_pure ?_))

  refine wpAny_bind (wpAny_bind (wpAny_onRaise ?_))
  show wpAny _ _ (Builtin.SmallTypes.nextOf (.ref i2) >>= _) _ _ _
  refine wpAny_bind (wpAny_nextOf_list_item (((h2.extBut hs₁.extBut D.i2z).extBut hs₂.extBut D.i12.symm).extBut hs₃.extBut D.TOi2.symm)
    (((hl2.extBut hs₁.extBut D.l2z).extBut hs₂.extBut D.l2i1).extBut hs₃.extBut D.l2TO) hy fun h₄ h2₄ hs₄ => wpAny_pure ?_)
  have hTO₄ : IsPair h₄ TO x b := hs₄.extBut _ _ D.TOi2 hTO₃
  refine wpAny_bind (wpAny_seqItems hTO₄ rfl ?_)
  refine wpAny_bind (wpAny_updateSeq_pair hTO₄ fun h₅ hTO₅ hs₅ => ?_)
  replace hTO₅ : IsPair h₅ TO x y := hTO₅
  refine wpAny_bind (wpAny_letGo (wpAny_pure (wpAny_pure ?_)))

  refine wpAny_bind (wpAny_seqItems hTO₅ rfl ?_)
  refine wpAny_bind (wpAny_newTuple ?_)
  have hsz : h₅.objs.size = s.heap.objs.size := by rw [hs₅.1, hs₄.1, hs₃.1, hs₂.1, hs₁.1]
  have hz₅ : IsZip h₅ z TI TO .ellipsis := hs₅.extBut _ _ D.TOz.symm (hs₄.extBut _ _ D.i2z.symm (hs₃.extBut _ _ D.TOz.symm (hs₂.extBut _ _ D.i1z.symm hz₁)))
  have hk₅ : ∀ c o, c ≠ z → c ≠ TO → c ≠ i1 → c ≠ i2 → s.heap.get? c = some o → h₅.get? c = some o := fun c o c1 c2 c3 c4 e =>
    hs₅.extBut _ _ c2 (hs₄.extBut _ _ c4 (hs₃.extBut _ _ c2 (hs₂.extBut _ _ c3 (hs₁.extBut _ _ c1 e))))
  have h1₅ : h₅.IsTupleIter i1 l1 (k1 + 1) := ((h1₂.extBut hs₃.extBut D.TOi1.symm).extBut hs₄.extBut D.i12).extBut hs₅.extBut D.TOi1.symm
  have h2₅ : h₅.IsListIter i2 l2 (k2 + 1) := h2₄.extBut hs₅.extBut D.TOi2.symm
  have hzlt : z < h₅.objs.size := Heap.lt_size hz₅
  have hTOlt : TO < h₅.objs.size := Heap.lt_size hTO₅
  have hi1lt : i1 < h₅.objs.size := by obtain ⟨_, e, _⟩ := h1₅; exact Heap.lt_size e
  have hi2lt : i2 < h₅.objs.size := by obtain ⟨_, e, _⟩ := h2₅; exact Heap.lt_size e
  show wpAny _ _ (Builtin.SmallTypes.ownedTupleHandOut (.ref z) (.ref h₅.objs.size) >>= _) _ _ _
  refine wpAny_bind ?_
  unfold Builtin.SmallTypes.ownedTupleHandOut
  have hz₆ : IsZip (h₅.push { cls := .type "tuple", data := .seq #[x, y] }) z TI TO .ellipsis := Heap.get?_push_of_some _ hz₅
  refine wpAny_bind (wpAny_setField_rec hz₆ (by simp) fun h₇ hz₇ hs₇ => ?_)
  replace hz₇ : IsZip h₇ z TI TO (rawInt h₅.objs.size) := hz₇
  refine wpAny_setField_rec hz₇ (by simp) fun h₈ hz₈ hs₈ => ?_
  replace hz₈ : IsZip h₈ z TI TO (rawInt h₅.objs.size) := hz₈
  have up : ∀ c o, c ≠ z → h₅.get? c = some o → h₈.get? c = some o := fun c o c1 e => hs₈.extBut _ _ c1 (hs₇.extBut _ _ c1 (Heap.get?_push_of_some _ e))
  have hT₈ : IsPair h₈ h₅.objs.size x y := hs₈.extBut _ _ (Nat.ne_of_gt hzlt) (hs₇.extBut _ _ (Nat.ne_of_gt hzlt) (Heap.get?_push_size _ rfl))
  have hz8 : h₈.objs.size = h₅.objs.size + 1 := by rw [hs₈.1, hs₇.1, Heap.size_push]
  rw [hsz] at hz₈ hT₈ hz8
  refine wpAny_pure ⟨_, rfl, ?_⟩
  show Q (.ref h₅.objs.size) _
  rw [hsz]
  exact hQ h₈ hz₈ (up _ _ D.TOz hTO₅) (h1₅.at fun o e => up _ o D.i1z e) (h2₅.at fun o e => up _ o D.i2z e) hT₈ hz8 fun c o c1 c2 c3 c4 e => up c o c1 (hk₅ c o c1 c2 c3 c4 e)

theorem zipM_next_end {z TI TO i1 i2 l1 l2 : Addr} {k1 k2 : Nat} {xs ys : Array Value} {a b : Value} {Q : Fin → Shared → Prop} (hh : A.handled = none) (D : ZipApart z TI TO i1 i2 l1 l2)
    (hz : IsZip s.heap z TI TO .none) (hTI : IsPair s.heap TI (.ref i1) (.ref i2)) (hTO : IsPair s.heap TO a b)
    (h1 : s.heap.IsTupleIter i1 l1 k1) (h2 : s.heap.IsListIter i2 l2 k2) (hl1 : s.heap.IsTuple l1 xs) (hl2 : s.heap.IsList l2 ys) (hend : xs[k1]? = none ∨ ys[k2]? = none)
    (hE : ∀ h' e, (∀ c o, c ≠ z → c ≠ TO → c ≠ i1 → c ≠ i2 → s.heap.get? c = some o → h'.get? c = some o) → (∃ o, h'.get? e = some o ∧ o.cls = .type "StopIteration") → E (.ref e) { s with heap := h' }) :
    wpAny (model prog w) A (Builtin.«zip.__next__» ⟨[.ref z], []⟩) Q E s := by
  show wpAny _ _ (field (.ref z) 2 >>= _) _ _ _
  refine wpAny_bind (wpAny_field hz rfl (x := .bool false) rfl ?_)
  show wpAny _ _ (field (.ref z) 3 >>= _) _ _ _
  refine wpAny_bind (wpAny_field hz rfl (x := .ref TI) rfl ?_)
  refine wpAny_bind (wpAny_seqItems hTI rfl ?_)
  show wpAny _ _ (Builtin.SmallTypes.ownedTupleIsFree (.ref z) >>= _) _ _ _
  refine wpAny_bind ?_
  unfold Builtin.SmallTypes.ownedTupleIsFree
  refine wpAny_bind (wpAny_field hz rfl (x := .none) rfl (wpAny_pure ?_))
  simp only [if_true]
  refine wpAny_bind (wpAny_rule ?_)
  refine wpAny_bind (wpAny_field hz rfl (x := .ref TO) rfl ?_)
  refine wpAny_bind (wpAny_setField_rec hz (by simp) fun h₁ hz₁ hs₁ => ?_)
  replace hz₁ : IsZip h₁ z TI TO .ellipsis := hz₁
  refine wpAny_bind ?_
  simp only [List.zipIdx_cons, List.zipIdx_nil, List.forIn_cons, List.forIn_nil]
  refine wpAny_bind (wpAny_bind (wpAny_onRaise ?_))
  show wpAny _ _ (Builtin.SmallTypes.nextOf (.ref i1) >>= _) _ _ _
  cases hx : xs[k1]? with
  | none =>
    refine wpAny_bind (nextOf_tuple_end hh (h1.extBut hs₁.extBut D.i1z) (hl1.extBut hs₁.extBut D.l1z) hx fun h₂ e hs₂ he => ?_)
    obtain ⟨oe, hoe, hce⟩ := he
    have hz₂ : IsZip h₂ z TI TO .ellipsis := hs₂ _ _ D.i1z.symm hz₁
    have hez : e ≠ z := fun x => by subst x; rw [hz₂] at hoe; cases hoe; simp at hce
    refine wpAny_setField_rec hz₂ (by simp) fun h₃ _ hs₃ => hE h₃ e (fun c o c1 _ c3 _ x => hs₃.extBut _ _ c1 (hs₂ _ _ c3 (hs₁.extBut _ _ c1 x))) ⟨oe, hs₃.extBut _ _ hez hoe, hce⟩
  | some x =>
    have hy : ys[k2]? = none := by rcases hend with h | h; rw [hx] at h; cases h; exact h
    refine wpAny_bind (nextOf_tuple_item (h1.extBut hs₁.extBut D.i1z) (hl1.extBut hs₁.extBut D.l1z) hx fun h₂ h1₂ hs₂ => wpAny_pure ?_)
    have hTO₂ : IsPair h₂ TO a b := hs₂.extBut _ _ D.TOi1 (hs₁.extBut _ _ D.TOz hTO)
    refine wpAny_bind (wpAny_seqItems hTO₂ rfl ?_)
    refine wpAny_bind (wpAny_updateSeq_pair hTO₂ fun h₃ hTO₃ hs₃ => ?_)
    refine wpAny_bind (wpAny_letGo (wpAny_pure ?_))
    refine wpAny_bind (wpAny_bind (wpAny_onRaise ?_))
    show wpAny _ _ (Builtin.SmallTypes.nextOf (.ref i2) >>= _) _ _ _
    refine wpAny_bind (wpAny_nextOf_list_end hh (((h2.extBut hs₁.extBut D.i2z).extBut hs₂.extBut D.i12.symm).extBut hs₃.extBut D.TOi2.symm)
      (((hl2.extBut hs₁.extBut D.l2z).extBut hs₂.extBut D.l2i1).extBut hs₃.extBut D.l2TO) hy fun h₄ e hs₄ he => ?_)
    obtain ⟨oe, hoe, hce⟩ := he
    have hz₄ : IsZip h₄ z TI TO .ellipsis := hs₄ _ _ D.i2z.symm (hs₃.extBut _ _ D.TOz.symm (hs₂.extBut _ _ D.i1z.symm hz₁))
    have hez : e ≠ z := fun x => by subst x; rw [hz₄] at hoe; cases hoe; simp at hce
    refine wpAny_setField_rec hz₄ (by simp) fun h₅ _ hs₅ => hE h₅ e (fun c o c1 c2 c3 c4 x => hs₅.extBut _ _ c1 (hs₄ _ _ c4 (hs₃.extBut _ _ c2 (hs₂.extBut _ _ c3 (hs₁.extBut _ _ c1 x))))) ⟨oe, hs₅.extBut _ _ hez hoe, hce⟩

theorem pyNext_zipM_item {z TI TO i1 i2 l1 l2 : Addr} {k1 k2 : Nat} {xs ys : Array Value} {x y a b : Value} {Q : Option Value → Shared → Prop} (D : ZipApart z TI TO i1 i2 l1 l2)
    (hz : IsZip s.heap z TI TO .none) (hTI : IsPair s.heap TI (.ref i1) (.ref i2)) (hTO : IsPair s.heap TO a b)
    (h1 : s.heap.IsTupleIter i1 l1 k1) (h2 : s.heap.IsListIter i2 l2 k2) (hl1 : s.heap.IsTuple l1 xs) (hl2 : s.heap.IsList l2 ys) (hx : xs[k1]? = some x) (hy : ys[k2]? = some y)
    (hQ : ∀ h', IsZip h' z TI TO (rawInt s.heap.objs.size) → IsPair h' TO x y → h'.IsTupleIter i1 l1 (k1 + 1) → h'.IsListIter i2 l2 (k2 + 1) → IsPair h' s.heap.objs.size x y → h'.objs.size = s.heap.objs.size + 1 →
      (∀ c o, c ≠ z → c ≠ TO → c ≠ i1 → c ≠ i2 → s.heap.get? c = some o → h'.get? c = some o) → Q (some (.ref s.heap.objs.size)) { s with heap := h' }) :
    wpAny (model prog w) A (pyNext (.ref z)) Q E s := by
  have hT : s.TypeIs (.ref z) "zip" := ⟨_, hz, rfl⟩
  unfold pyNext
  exact wpAny_bind (wpAny_attempt (wpAny_callSpecial?_slot (name := Str.ofString "__next__") hT F.slot_zip_next
    (wpAny_call_entry F.slot_zip_next hT F.entry_zip_next
      (zipM_next_item D hz hTI hTO h1 h2 hl1 hl2 hx hy fun h' a1 a2 a3 a4 a5 a6 a7 => wpAny_pure (hQ h' a1 a2 a3 a4 a5 a6 a7)) (F.args_zip_next_1 _))))

theorem pyNext_zipM_end {z TI TO i1 i2 l1 l2 : Addr} {k1 k2 : Nat} {xs ys : Array Value} {a b : Value} {Q : Option Value → Shared → Prop} (hh : A.handled = none) (D : ZipApart z TI TO i1 i2 l1 l2)
    (hz : IsZip s.heap z TI TO .none) (hTI : IsPair s.heap TI (.ref i1) (.ref i2)) (hTO : IsPair s.heap TO a b)
    (h1 : s.heap.IsTupleIter i1 l1 k1) (h2 : s.heap.IsListIter i2 l2 k2) (hl1 : s.heap.IsTuple l1 xs) (hl2 : s.heap.IsList l2 ys) (hend : xs[k1]? = none ∨ ys[k2]? = none)
    (hQ : ∀ h', (∀ c o, c ≠ z → c ≠ TO → c ≠ i1 → c ≠ i2 → s.heap.get? c = some o → h'.get? c = some o) → Q none { s with heap := h' }) : wpAny (model prog w) A (pyNext (.ref z)) Q E s := by
  have hT : s.TypeIs (.ref z) "zip" := ⟨_, hz, rfl⟩
  unfold pyNext
  refine wpAny_bind (wpAny_attempt (wpAny_callSpecial?_slot (name := Str.ofString "__next__") hT F.slot_zip_next
    (wpAny_call_entry F.slot_zip_next hT F.entry_zip_next (zipM_next_end hh D hz hTI hTO h1 h2 hl1 hl2 hend fun h' e hk he => ?_) (F.args_zip_next_1 _))))
  obtain ⟨o, ho, hc⟩ := he
  refine wpAny_bind (wpAny_isInstance (T := "StopIteration") (b := true) ⟨o, ho, hc⟩ isSubtype_stop ?_)
  exact wpAny_pure (hQ _ hk)
end

abbrev zipMH1 (h : Heap) (l1 : Addr) : Heap := h.push { cls := .type "tuple_iterator", data := .fields #[.ref l1, .int 0 0] }
abbrev zipMH2 (h : Heap) (l1 l2 : Addr) : Heap := (zipMH1 h l1).push { cls := .type "list_iterator", data := .fields #[.ref l2, .int 0 0] }
abbrev zipMH3 (h : Heap) (l1 l2 : Addr) : Heap := (zipMH2 h l1 l2).push { cls := .type "tuple", data := .seq #[.ref h.objs.size, .ref (zipMH1 h l1).objs.size] }
abbrev zipMH4 (h : Heap) (l1 l2 : Addr) : Heap := (zipMH3 h l1 l2).push { cls := .type "tuple", data := .seq #[.none, .none] }
abbrev zipMH5 (h : Heap) (l1 l2 : Addr) : Heap := (zipMH4 h l1 l2).push { cls := .type "zip", data := .fields #[.none, .bool false, .bool false, .ref (zipMH2 h l1 l2).objs.size, .ref (zipMH3 h l1 l2).objs.size] }

theorem meets_zipM_new (l1 l2 : Addr) (xs ys : Array Value) :
    Meets (Builtin.«zip.__new__» ⟨[.type "zip", .ref l1, .ref l2], []⟩) (fun _ R s => s.heap.IsTuple l1 xs ∧ s.heap.IsList l2 ys ∧
      R (.ok (.ret (.ref (zipMH4 s.heap l1 l2).objs.size))) { s with heap := zipMH5 s.heap l1 l2 }) :=
  .of_wp fun prog w A R s h => by
    obtain ⟨hp, g, d, tk, os⟩ := s; obtain ⟨hl1, hl2, h⟩ := h
    have hsub := sub_zip
    have hL1 : Heap.IsTuple (Shared.heap ⟨hp, g, d, tk, os⟩) l1 xs := hl1
    have hL2 : Heap.IsList (Shared.heap ⟨hp.push { cls := .type "tuple_iterator", data := .fields #[.ref l1, .int 0 0] }, g, d, tk, os⟩) l2 ys := Heap.IsList.push hl2 _
    wp_walk using wpAny_pyIter_tuple hL1, wpAny_pyIter_list hL2
    exact ⟨_, rfl, h⟩

section
variable {prog : Program} {w : World} {A : Around} {E : Value → Shared → Prop} {s : Shared}

theorem call_zipM {l1 l2 : Addr} {xs ys : Array Value} {Q : Value → Shared → Prop} (hl1 : s.heap.IsTuple l1 xs) (hl2 : s.heap.IsList l2 ys)
    (h : ∀ h', IsZip h' (s.heap.objs.size + 4) (s.heap.objs.size + 2) (s.heap.objs.size + 3) .none → IsPair h' (s.heap.objs.size + 2) (.ref s.heap.objs.size) (.ref (s.heap.objs.size + 1)) →
      IsPair h' (s.heap.objs.size + 3) .none .none → h'.IsTupleIter s.heap.objs.size l1 0 → h'.IsListIter (s.heap.objs.size + 1) l2 0 → h'.objs.size = s.heap.objs.size + 5 →
      (∀ c o, s.heap.get? c = some o → h'.get? c = some o) → Q (.ref (s.heap.objs.size + 4)) { s with heap := h' }) :
    wpAny (model prog w) A (call (.type "zip") [.ref l1, .ref l2]) Q E s := by
  refine callType_new F.called_zip (by decide) (F.typeCall_zip_2 _ _) (F.newCall_zip_2 _ _) (fun obj => F.args_object_init_3 obj _ _) F.entry_zip_new
    (meets_zipM_new l1 l2 xs ys) ⟨hl1, hl2, ?_⟩
  have z1 : (zipMH1 s.heap l1).objs.size = s.heap.objs.size + 1 := Heap.size_push ..
  have z2 : (zipMH2 s.heap l1 l2).objs.size = s.heap.objs.size + 2 := by rw [Heap.size_push, z1]
  have z3 : (zipMH3 s.heap l1 l2).objs.size = s.heap.objs.size + 3 := by rw [Heap.size_push, z2]
  have z4 : (zipMH4 s.heap l1 l2).objs.size = s.heap.objs.size + 4 := by rw [Heap.size_push, z3]
  have z5 : (zipMH5 s.heap l1 l2).objs.size = s.heap.objs.size + 5 := by rw [Heap.size_push, z4]
  have g5 : (zipMH5 s.heap l1 l2).get? (zipMH4 s.heap l1 l2).objs.size = some _ := Heap.get?_push_size _ rfl
  have g4 : (zipMH5 s.heap l1 l2).get? (zipMH3 s.heap l1 l2).objs.size = some _ := Heap.get?_push_of_some _ (Heap.get?_push_size _ rfl)
  have g3 : (zipMH5 s.heap l1 l2).get? (zipMH2 s.heap l1 l2).objs.size = some _ := Heap.get?_push_of_some _ (Heap.get?_push_of_some _ (Heap.get?_push_size _ rfl))
  have g2 : (zipMH5 s.heap l1 l2).get? (zipMH1 s.heap l1).objs.size = some _ := Heap.get?_push_of_some _ (Heap.get?_push_of_some _ (Heap.get?_push_of_some _ (Heap.get?_push_size _ rfl)))
  have g1 : (zipMH5 s.heap l1 l2).get? s.heap.objs.size = some _ := Heap.get?_push_of_some _ (Heap.get?_push_of_some _ (Heap.get?_push_of_some _ (Heap.get?_push_of_some _ (Heap.get?_push_size _ rfl))))
  show _ ∧ _
  rw [z2, z3, z4] at g5
  rw [z1, z2] at g3
  rw [z3] at g4
  rw [z1] at g2
  rw [z4]
  exact ⟨⟨_, g5, rfl⟩, h _ g5 g3 g4 ⟨_, g1, rfl, rfl⟩ ⟨_, g2, rfl, rfl⟩ z5 fun c o x =>
    Heap.get?_push_of_some _ (Heap.get?_push_of_some _ (Heap.get?_push_of_some _ (Heap.get?_push_of_some _ (Heap.get?_push_of_some _ x))))⟩
end
/-- the tuple at a and the list at b, turn by turn: the items in new pairs -/
def ItzM (K : PySem.W.Frag) (a b : Addr) : It :=
  ⟨fun i H => ∃ (xs ys : List V) (x y : V), SqT K H a xs ∧ SqL K H b ys ∧ xs[i]? = some x ∧ ys[i]? = some y,
    fun i H v H' => ∃ T x y, v = .ref T ∧ H T = none ∧ H' = upd H T (.tup [x, y]) ∧ (∀ xs, SqT K H a xs → xs[i]? = some x) ∧ ∀ ys, SqL K H b ys → ys[i]? = some y,
    fun i H => ∃ xs ys : List V, SqT K H a xs ∧ SqL K H b ys ∧ (xs.length ≤ i ∨ ys.length ≤ i)⟩
theorem turn_zipM {P : Program} {w : World} {K : PySem.W.Frag} {elts : List Expr} {kk : Nat} {tpos : Pos} {a b z TI TO i1 i2 : Addr} (D : ZipApart z TI TO i1 i2 a b) :
    Turn P w K (.Tuple elts kk tpos) (ItzM K a b) [z, TI, TO, i1, i2] z (fun i h => IsZip h z TI TO .none ∧ IsPair h TI (.ref i1) (.ref i2) ∧ (∃ x y, IsPair h TO x y) ∧ h.IsTupleIter i1 a i ∧ h.IsListIter i2 b i) where
  mem := by simp
  obj := fun i h st c hc => by
    obtain ⟨hz, hTI, ⟨x, y, hTO⟩, ⟨o1, e1, _, d1⟩, ⟨o2, e2, _, d2⟩⟩ := st
    have e' : c = z ∨ c = TI ∨ c = TO ∨ c = i1 ∨ c = i2 := by simpa using hc
    rcases e' with q | q | q | q | q
    · rw [q]; exact ⟨_, hz, fun v q => nomatch q⟩
    · rw [q]; exact ⟨_, hTI, fun v q => nomatch q⟩
    · rw [q]; exact ⟨_, hTO, fun v q => nomatch q⟩
    · rw [q]; exact ⟨o1, e1, fun v q => by rw [d1] at q; cases q⟩
    · rw [q]; exact ⟨o2, e2, fun v q => by rw [d2] at q; cases q⟩
  keep := fun i h h' st k => by
    obtain ⟨hz, hTI, ⟨x, y, hTO⟩, h1, h2⟩ := st
    exact ⟨k z (by simp) _ hz, k TI (by simp) _ hTI, ⟨x, y, k TO (by simp) _ hTO⟩, h1.at fun o q => k i1 (by simp) o q, h2.at fun o q => k i2 (by simp) o q⟩
  item := by
    intro X hP hw hK hc i pins s σ H E I hf st hg
    subst hP hw hK
    obtain ⟨hz, hTI, ⟨x0, y0, hTO⟩, h1, h2⟩ := st
    obtain ⟨xs, ys, x, y, hqx, hqy, hx, hy⟩ := hg
    obtain ⟨its, rv, p, _⟩ := I.tuple hqx
    obtain ⟨its2, rv2, p2, _⟩ := I.list hqy
    obtain ⟨u, hu, ru⟩ := rv.get hx
    obtain ⟨u2, hu2, ru2⟩ := rv2.get hy
    have hzl : z < s.heap.objs.size := Heap.lt_size hz
    refine pyNext_zipM_item D hz hTI hTO h1 h2 p p2.isList (x := u) (y := u2) (by simpa using hu) (by simpa using hu2) fun h' z' TO' h1' h2' hT hsz hk => ?_
    refine ⟨_, rfl, wpAny_letOwnedTupleGo_zip (s := { s with heap := h' }) z' fun h'' z'' sb => ?_⟩
    have hT2 : h''.get? s.heap.objs.size = some { cls := .type "tuple", data := .seq #[u, u2] } := (sb.2 _ (Nat.ne_of_gt hzl)).trans hT
    have new : ObjOk X.prog X.w (upd H s.heap.objs.size (.tup [x, y])) h'' s.heap.objs.size (.tup [x, y]) :=
      ⟨by show 2 ≤ sizeLine; decide, [u, u2], .cons ru (.cons ru2 .nil), ⟨_, hT2, rfl, _, rfl⟩⟩
    have I1 : Inv X pins σ (upd H s.heap.objs.size (.tup [x, y])) { s with heap := h'' } :=
      I.turnedNew (t' := s.toks) (ch := [z, TI, TO, i1, i2]) (fun c o hb q => (sb.2 c (fun q' => hb (by simp [q']))).trans (hk c o (fun q' => hb (by simp [q'])) (fun q' => hb (by simp [q'])) (fun q' => hb (by simp [q'])) (fun q' => hb (by simp [q'])) q)) hf (Nat.le_refl _) new
    refine ⟨.ref s.heap.objs.size, _, I1, rfl, ⟨_, x, y, rfl, I.hok.fresh (Nat.le_refl _), rfl, fun l hl => by rw [I.tuple_inj hl hqx]; exact hx, fun l hl => by rw [I.list_inj hl hqy]; exact hy⟩, ⟨z'', ?_, ⟨u, u2, ?_⟩, ?_, ?_⟩, fun c hcm => ?_⟩
    · exact (sb.2 _ D.TIz).trans (hk _ _ D.TIz D.TITO D.TIi1 D.TIi2 hTI)
    · exact (sb.2 _ D.TOz).trans TO'
    · exact h1'.at fun o q => (sb.2 _ D.i1z).trans q
    · exact h2'.at fun o q => (sb.2 _ D.i2z).trans q
    · have hlt : c < s.heap.objs.size := by
        have e' : c = z ∨ c = TI ∨ c = TO ∨ c = i1 ∨ c = i2 := by simpa using hcm
        rcases e' with q | q | q | q | q
        · rw [q]; exact hzl
        · rw [q]; exact Heap.lt_size hTI
        · rw [q]; exact Heap.lt_size hTO
        · rw [q]; obtain ⟨_, e1, _⟩ := h1; exact Heap.lt_size e1
        · rw [q]; obtain ⟨_, e2, _⟩ := h2; exact Heap.lt_size e2
      rw [upd_ne (Nat.ne_of_lt hlt)]
      exact (hf c hcm).1
  done := by
    intro X hP hw hK hc i pins s σ H E I hf st hg
    subst hP hw hK
    obtain ⟨hz, hTI, ⟨x0, y0, hTO⟩, h1, h2⟩ := st
    obtain ⟨xs, ys, hqx, hqy, hend⟩ := hg
    obtain ⟨its, rv, p, _⟩ := I.tuple hqx
    obtain ⟨its2, rv2, p2, _⟩ := I.list hqy
    have l1 := rv.length
    have l2 := rv2.length
    have he : its.toArray[i]? = none ∨ its2.toArray[i]? = none := by
      rcases hend with q | q
      · exact .inl (by simp; omega)
      · exact .inr (by simp; omega)
    exact pyNext_zipM_end (I.ok.hd hc) D hz hTI hTO h1 h2 p p2.isList he fun h' hk => ⟨rfl, I.turnedL (t' := s.toks) (ch := [z, TI, TO, i1, i2]) (fun c o hb q =>
      hk c o (fun q' => hb (by simp [q'])) (fun q' => hb (by simp [q'])) (fun q' => hb (by simp [q'])) (fun q' => hb (by simp [q'])) q) hf⟩
  self := fun A i s Q E st h => wpAny_pyIter_zip st.1 h

/-- zip(t, l): a tuple and a list -/
def iZipM (K : PySem.W.Frag) (ta : TA) : TI := fun σ H R => ta σ H fun vs H1 => ∃ a b xs ys, vs = [.ref a, .ref b] ∧ SqT K H1 a xs ∧ SqL K H1 b ys ∧ R (ItzM K a b) H1
theorem pi_zipTL {X : Cx} {e e2 : Expr} {ta : TA} {p pos tpos : Pos} {elts : List Expr} {kk : Nat} (hg : Gl X "zip") (hm : X.mg "zip" = none) (ha : PA X [e, e2] ta)
    (hs : starEach [e, e2] X.env = (false, eval e X.env) :: starEach [e2] X.env := by rfl) (hpl : (backTo pos (starEach [e2] X.env)).any (·.1) = false := by rfl) :
    PI X (.Tuple elts kk tpos) (.Call (.Name "zip" p) [e, e2] [] pos) (iZipM X.K ta) := by
  refine ⟨fun pins s σ H R I h => Call_ (ld_blt I hg hm PyProof.Rows.boot_zip (PyProof.Rows.callWith_type1 (thn (ha.run pos pins s σ H _ I h) fun us s1 ⟨vs, H1, I1, r1, q1⟩ => ?_) hs hpl))⟩
  obtain ⟨a, b, xs, ys, ex, hqx, hqy, q⟩ := q1
  subst ex
  obtain ⟨u, w', rfl, ru, rw'⟩ := vals2 r1
  cases ru
  cases rw'
  obtain ⟨its, rv, p1, _⟩ := I1.tuple hqx
  obtain ⟨its2, rv2, p2, _⟩ := I1.list hqy
  obtain ⟨o1, ho1, _⟩ := id p1
  refine call_zipM (show s1.heap.IsTuple a its.toArray from p1) p2.isList fun h' hz hTI hTO h1 h2 hsz hk => wpAny_pyIter_zip hz ?_
  have I2 : Inv X pins σ H1 { s1 with heap := h' } := I1.kept (t' := s1.toks) hk
  refine ⟨s1.heap.objs.size + 4, [s1.heap.objs.size + 4, s1.heap.objs.size + 2, s1.heap.objs.size + 3, s1.heap.objs.size, s1.heap.objs.size + 1], _, _, H1, rfl, I2, turn_zipM (PySem.W.ktu_apart s1.heap.objs.size a b (Heap.lt_size ho1) p2.lt), ⟨hz, hTI, ⟨_, _, hTO⟩, h1, h2⟩, fun c hcm => ?_, q⟩
  have hle : s1.heap.objs.size ≤ c := by
    simp only [List.mem_cons, List.not_mem_nil, or_false] at hcm
    rcases hcm with z | z | z | z | z <;> subst z
    · exact Nat.le_add_right _ _
    · exact Nat.le_add_right _ _
    · exact Nat.le_add_right _ _
    · exact Nat.le_refl _
    · exact Nat.le_add_right _ _
  exact I1.fpOk hle (I1.hok.fresh hle)
/-- a loop over zip of a tuple and a list of one length -/
theorem for_zipM {K : PySem.W.Frag} {a b : Addr} {xs ys : List V} {g : TG} {tb : TS} {D : Ends} {σ : L2.St} {H : Hp} (hl : xs.length = ys.length) (Pv : Nat → L2.St → Hp → Prop) (h0 : Pv 0 σ H) (hq : ∀ i σ H, Pv i σ H → SqT K H a xs ∧ SqL K H b ys)
    (hs : ∀ (i : Nat) (x y : V) (T : Addr) (σ : L2.St) (H : Hp), xs[i]? = some x → ys[i]? = some y → Pv i σ H → H T = none → g (.ref T) σ (upd H T (.tup [x, y])) fun σ2 H2 => tb { D with nx := Pv (i + 1), ct := Pv (i + 1), bk := D.nx } σ2 H2) (hd : ∀ σ H, Pv xs.length σ H → D.nx σ H) :
    ∃ W : Nat → Nat → L2.St → Hp → Prop, (∃ m, W 0 m σ H) ∧ ∀ i m σ H, W i m σ H →
      ((ItzM K a b).stop i H ∧ D.nx σ H) ∨ ((ItzM K a b).go i H ∧ ∃ N : L2.St → Hp → Prop, (∀ σ' H', N σ' H' → ∃ m', m' < m ∧ W (i + 1) m' σ' H') ∧ ∀ v H', (ItzM K a b).yld i H v H' → g v σ H' fun σ2 H2 => tb { D with nx := N, ct := N, bk := D.nx } σ2 H2) := by
  refine ⟨fun i m σ H => m = xs.length - i ∧ i ≤ xs.length ∧ Pv i σ H, ⟨xs.length, rfl, Nat.zero_le _, h0⟩, ?_⟩
  rintro i m σ H ⟨rfl, hi, p⟩
  obtain ⟨qx, qy⟩ := hq i σ H p
  by_cases hlt : i < xs.length
  · have hx : xs[i]? = some xs[i] := List.getElem?_eq_getElem hlt
    have hlt2 : i < ys.length := by omega
    have hy : ys[i]? = some ys[i] := List.getElem?_eq_getElem hlt2
    refine .inr ⟨⟨xs, ys, _, _, qx, qy, hx, hy⟩, Pv (i + 1), fun σ' H' p' => ⟨xs.length - (i + 1), by omega, rfl, hlt, p'⟩, fun v H' y => ?_⟩
    obtain ⟨T, x', y', rfl, hT, rfl, f1, f2⟩ := y
    exact hs i x' y' T σ H (f1 xs qx) (f2 ys qy) p hT
  · have e : i = xs.length := by omega
    subst e
    exact .inl ⟨⟨xs, ys, qx, qy, Or.inl (Nat.le_refl _)⟩, hd σ H p⟩

end EhZ

-- EhT
set_option Elab.async false
set_option linter.all false
set_option maxRecDepth 100000
set_option maxHeartbeats 4000000
namespace Eh
open PySem PySem.Spec PyProof.Rows L2 EhR EhZ
/-! ### the text by places -/
def top (i : Nat) : Stmt := PySem.Challenge.pw_entryhouse_s01_answers.main.body.getD i (.Pass ⟨0, 0, 0, 0⟩)
abbrev s_Wr_init : Stmt := inClass (top 11) 0
abbrev s_Ru_init : Stmt := inClass (top 12) 0
abbrev s_Ru_put : Stmt := inClass (top 12) 1
abbrev s_Ru_rows : Stmt := inClass (top 12) 2
abbrev s_Ru_owed : Stmt := inClass (top 12) 3
abbrev s_Ru_percent : Stmt := inClass (top 12) 4
abbrev s_Ru_given_back : Stmt := inClass (top 12) 5
abbrev s_Ru_shown : Stmt := inClass (top 12) 6
abbrev s_f_words_of : Stmt := top 13
abbrev s_f_rows_of : Stmt := top 14
abbrev s_f_number_of : Stmt := top 15
abbrev s_f_is_word : Stmt := top 16
abbrev s_f_bounds_of : Stmt := top 17
abbrev s_f_are_pairs : Stmt := top 18
abbrev s_f_are_right : Stmt := top 19
abbrev s_f_put_row : Stmt := top 20
abbrev s_f_rules_of : Stmt := top 21
abbrev s_Sc_init : Stmt := inClass (top 25) 0
abbrev s_Sc_account : Stmt := inClass (top 25) 1
abbrev s_Sc_money : Stmt := inClass (top 25) 2
abbrev s_Of_init : Stmt := inClass (top 26) 0
abbrev s_St_init : Stmt := inClass (top 27) 0
abbrev s_St_school_at : Stmt := inClass (top 27) 1
abbrev s_St_offer_at : Stmt := inClass (top 27) 2
abbrev s_St_standing : Stmt := inClass (top 27) 3
abbrev s_St_load : Stmt := inClass (top 27) 4
abbrev s_St_loads : Stmt := inClass (top 27) 5
abbrev s_St_taken : Stmt := inClass (top 27) 6
abbrev s_St_waits : Stmt := inClass (top 27) 7
abbrev s_St_following : Stmt := inClass (top 27) 8
abbrev s_St_queue : Stmt := inClass (top 27) 9
abbrev s_St_make_offers : Stmt := inClass (top 27) 10
abbrev s_St_pass_night : Stmt := inClass (top 27) 11
abbrev s_St_take_away : Stmt := inClass (top 27) 12
abbrev s_St_missing : Stmt := inClass (top 27) 13
abbrev s_St_close : Stmt := inClass (top 27) 14
abbrev s_Re_init : Stmt := inClass (top 52) 0
abbrev s_f_refuse_if : Stmt := top 53
abbrev s_f_with_rows : Stmt := top 54
abbrev s_De_init : Stmt := inClass (top 55) 0
abbrev s_De_look_up : Stmt := inClass (top 55) 1
abbrev s_De_offer : Stmt := inClass (top 55) 2
abbrev s_De_look_closed : Stmt := inClass (top 55) 3
abbrev s_De_look_entries : Stmt := inClass (top 55) 4
abbrev s_De_clear : Stmt := inClass (top 55) 5
abbrev s_De_put_rules : Stmt := inClass (top 55) 6
abbrev s_De_enter : Stmt := inClass (top 55) 7
abbrev s_De_want : Stmt := inClass (top 55) 8
abbrev s_De_bring : Stmt := inClass (top 55) 9
abbrev s_De_accept : Stmt := inClass (top 55) 10
abbrev s_De_decline : Stmt := inClass (top 55) 11
abbrev s_De_drop : Stmt := inClass (top 55) 12
abbrev s_De_transfer : Stmt := inClass (top 55) 13
abbrev s_De_pay : Stmt := inClass (top 55) 14
abbrev s_De_payout : Stmt := inClass (top 55) 15
abbrev s_De_night : Stmt := inClass (top 55) 16
abbrev s_De_close : Stmt := inClass (top 55) 17
abbrev s_De_school_told : Stmt := inClass (top 55) 18
abbrev s_De_offers_told : Stmt := inClass (top 55) 19
abbrev s_De_money : Stmt := inClass (top 55) 20
abbrev s_De_counts : Stmt := inClass (top 55) 21
abbrev s_f_first_told : Stmt := top 56
abbrev s_f_call_told : Stmt := top 57
abbrev s_f_answer_of : Stmt := top 58
abbrev s_Cr_init : Stmt := inClass (top 59) 0
abbrev s_Cr_is_done : Stmt := inClass (top 59) 1
abbrev s_Cr_next_some : Stmt := inClass (top 59) 2
abbrev s_f_answers : Stmt := top 60
theorem sc_Wr_init : FnScope ["self", "kind", "row"] ["self", "kind", "row"] (defScope s_Wr_init) := ⟨rfl, rfl, rfl, by decide +kernel, rfl, by decide +kernel, by decide +kernel⟩
theorem sc_Ru_init : FnScope ["self"] ["self"] (defScope s_Ru_init) := ⟨rfl, rfl, rfl, by decide +kernel, rfl, by decide +kernel, by decide +kernel⟩
theorem sc_Ru_put : FnScope ["self", "word", "numbers"] ["self", "word", "numbers"] (defScope s_Ru_put) := ⟨rfl, rfl, rfl, by decide +kernel, rfl, by decide +kernel, by decide +kernel⟩
theorem sc_Ru_rows : FnScope ["self", "found"] ["self"] (defScope s_Ru_rows) := ⟨rfl, rfl, rfl, by decide +kernel, rfl, by decide +kernel, by decide +kernel⟩
theorem sc_Ru_owed : FnScope ["self", "teams", "each", "many"] ["self", "teams"] (defScope s_Ru_owed) := ⟨rfl, rfl, rfl, by decide +kernel, rfl, by decide +kernel, by decide +kernel⟩
theorem sc_Ru_percent : FnScope ["self", "day", "ahead", "place"] ["self", "day"] (defScope s_Ru_percent) := ⟨rfl, rfl, rfl, by decide +kernel, rfl, by decide +kernel, by decide +kernel⟩
theorem sc_Ru_given_back : FnScope ["self", "day"] ["self", "day"] (defScope s_Ru_given_back) := ⟨rfl, rfl, rfl, by decide +kernel, rfl, by decide +kernel, by decide +kernel⟩
theorem sc_Ru_shown : FnScope ["self", "found", "word", "numbers", "sign", "number"] ["self"] (defScope s_Ru_shown) := ⟨rfl, rfl, rfl, by decide +kernel, rfl, by decide +kernel, by decide +kernel⟩
theorem sc_f_words_of : FnScope ["row", "found", "byte", "word"] ["row"] (defScope s_f_words_of) := ⟨rfl, rfl, rfl, by decide +kernel, rfl, by decide +kernel, by decide +kernel⟩
theorem sc_f_rows_of : FnScope ["text", "found", "byte"] ["text"] (defScope s_f_rows_of) := ⟨rfl, rfl, rfl, by decide +kernel, rfl, by decide +kernel, by decide +kernel⟩
theorem sc_f_number_of : FnScope ["word", "found", "byte"] ["word"] (defScope s_f_number_of) := ⟨rfl, rfl, rfl, by decide +kernel, rfl, by decide +kernel, by decide +kernel⟩
theorem sc_f_is_word : FnScope ["word", "told", "sign"] ["word", "told"] (defScope s_f_is_word) := ⟨rfl, rfl, rfl, by decide +kernel, rfl, by decide +kernel, by decide +kernel⟩
theorem sc_f_bounds_of : FnScope ["word"] ["word"] (defScope s_f_bounds_of) := ⟨rfl, rfl, rfl, by decide +kernel, rfl, by decide +kernel, by decide +kernel⟩
theorem sc_f_are_pairs : FnScope ["numbers", "place", "number"] ["numbers"] (defScope s_f_are_pairs) := ⟨rfl, rfl, rfl, by decide +kernel, rfl, by decide +kernel, by decide +kernel⟩
theorem sc_f_are_right : FnScope ["word", "numbers", "bounds", "number", "some"] ["word", "numbers"] (defScope s_f_are_right) := ⟨rfl, rfl, rfl, by decide +kernel, rfl, by decide +kernel, by decide +kernel⟩
theorem sc_f_put_row : FnScope ["rules", "words", "told", "number", "names", "numbers", "word"] ["rules", "words", "told", "number"] (defScope s_f_put_row) := ⟨rfl, rfl, rfl, by decide +kernel, rfl, by decide +kernel, by decide +kernel⟩
theorem sc_f_rules_of : FnScope ["text", "found", "told", "number", "row", "words"] ["text"] (defScope s_f_rules_of) := ⟨rfl, rfl, rfl, by decide +kernel, rfl, by decide +kernel, by decide +kernel⟩
theorem sc_Sc_init : FnScope ["self", "number", "wanted", "judges"] ["self", "number", "wanted", "judges"] (defScope s_Sc_init) := ⟨rfl, rfl, rfl, by decide +kernel, rfl, by decide +kernel, by decide +kernel⟩
theorem sc_Sc_account : FnScope ["self"] ["self"] (defScope s_Sc_account) := ⟨rfl, rfl, rfl, by decide +kernel, rfl, by decide +kernel, by decide +kernel⟩
theorem sc_Sc_money : FnScope ["self"] ["self"] (defScope s_Sc_money) := ⟨rfl, rfl, rfl, by decide +kernel, rfl, by decide +kernel, by decide +kernel⟩
theorem sc_Of_init : FnScope ["self", "number", "school", "day"] ["self", "number", "school", "day"] (defScope s_Of_init) := ⟨rfl, rfl, rfl, by decide +kernel, rfl, by decide +kernel, by decide +kernel⟩
theorem sc_St_init : FnScope ["self", "rules"] ["self", "rules"] (defScope s_St_init) := ⟨rfl, rfl, rfl, by decide +kernel, rfl, by decide +kernel, by decide +kernel⟩
theorem sc_St_school_at : FnScope ["self", "number", "school"] ["self", "number"] (defScope s_St_school_at) := ⟨rfl, rfl, rfl, by decide +kernel, rfl, by decide +kernel, by decide +kernel⟩
theorem sc_St_offer_at : FnScope ["self", "number", "offer"] ["self", "number"] (defScope s_St_offer_at) := ⟨rfl, rfl, rfl, by decide +kernel, rfl, by decide +kernel, by decide +kernel⟩
theorem sc_St_standing : FnScope ["self", "school", "offer"] ["self", "school"] (defScope s_St_standing) := ⟨rfl, rfl, rfl, by decide +kernel, rfl, by decide +kernel, by decide +kernel⟩
theorem sc_St_load : FnScope ["self", "school"] ["self", "school"] (defScope s_St_load) := ⟨rfl, rfl, rfl, by decide +kernel, rfl, by decide +kernel, by decide +kernel⟩
theorem sc_St_loads : FnScope ["self", "school"] ["self"] (defScope s_St_loads) := ⟨rfl, rfl, rfl, by decide +kernel, rfl, by decide +kernel, by decide +kernel⟩
theorem sc_St_taken : FnScope ["self", "school"] ["self"] (defScope s_St_taken) := ⟨rfl, rfl, rfl, by decide +kernel, rfl, by decide +kernel, by decide +kernel⟩
theorem sc_St_waits : FnScope ["self", "school", "load"] ["self", "school", "load"] (defScope s_St_waits) := ⟨rfl, rfl, rfl, by decide +kernel, rfl, by decide +kernel, by decide +kernel⟩
theorem sc_St_following : FnScope ["self", "loads", "found", "place", "school"] ["self", "loads"] (defScope s_St_following) := ⟨rfl, rfl, rfl, by decide +kernel, rfl, by decide +kernel, by decide +kernel⟩
theorem sc_St_queue : FnScope ["self", "loads", "found", "place"] ["self"] (defScope s_St_queue) := ⟨rfl, rfl, rfl, by decide +kernel, rfl, by decide +kernel, by decide +kernel⟩
theorem sc_St_make_offers : FnScope ["self", "loads", "place"] ["self"] (defScope s_St_make_offers) := ⟨rfl, rfl, rfl, by decide +kernel, rfl, by decide +kernel, by decide +kernel⟩
theorem sc_St_pass_night : FnScope ["self", "stay", "offer", "school"] ["self"] (defScope s_St_pass_night) := ⟨rfl, rfl, rfl, by decide +kernel, rfl, by decide +kernel, by decide +kernel⟩
theorem sc_St_take_away : FnScope ["self", "offer", "other"] ["self", "offer"] (defScope s_St_take_away) := ⟨rfl, rfl, rfl, by decide +kernel, rfl, by decide +kernel, by decide +kernel⟩
theorem sc_St_missing : FnScope ["self", "school"] ["self", "school"] (defScope s_St_missing) := ⟨rfl, rfl, rfl, by decide +kernel, rfl, by decide +kernel, by decide +kernel⟩
theorem sc_St_close : FnScope ["self", "school", "fine"] ["self"] (defScope s_St_close) := ⟨rfl, rfl, rfl, by decide +kernel, rfl, by decide +kernel, by decide +kernel⟩
theorem sc_Re_init : FnScope ["self", "why"] ["self", "why"] (defScope s_Re_init) := ⟨rfl, rfl, rfl, by decide +kernel, rfl, by decide +kernel, by decide +kernel⟩
theorem sc_f_refuse_if : FnScope ["truth", "why"] ["truth", "why"] (defScope s_f_refuse_if) := ⟨rfl, rfl, rfl, by decide +kernel, rfl, by decide +kernel, by decide +kernel⟩
theorem sc_f_with_rows : FnScope ["value", "rows", "found", "row"] ["value", "rows"] (defScope s_f_with_rows) := ⟨rfl, rfl, rfl, by decide +kernel, rfl, by decide +kernel, by decide +kernel⟩
theorem sc_De_init : FnScope ["self"] ["self"] (defScope s_De_init) := ⟨rfl, rfl, rfl, by decide +kernel, rfl, by decide +kernel, by decide +kernel⟩
theorem sc_De_look_up : FnScope ["self", "number", "found"] ["self", "number"] (defScope s_De_look_up) := ⟨rfl, rfl, rfl, by decide +kernel, rfl, by decide +kernel, by decide +kernel⟩
theorem sc_De_offer : FnScope ["self", "number", "found"] ["self", "number"] (defScope s_De_offer) := ⟨rfl, rfl, rfl, by decide +kernel, rfl, by decide +kernel, by decide +kernel⟩
theorem sc_De_look_closed : FnScope ["self"] ["self"] (defScope s_De_look_closed) := ⟨rfl, rfl, rfl, by decide +kernel, rfl, by decide +kernel, by decide +kernel⟩
theorem sc_De_look_entries : FnScope ["self", "more"] ["self", "more"] (defScope s_De_look_entries) := ⟨rfl, rfl, rfl, by decide +kernel, rfl, by decide +kernel, by decide +kernel⟩
theorem sc_De_clear : FnScope ["self"] ["self"] (defScope s_De_clear) := ⟨rfl, rfl, rfl, by decide +kernel, rfl, by decide +kernel, by decide +kernel⟩
theorem sc_De_put_rules : FnScope ["self", "text", "state", "rules", "e", "found", "row", "byte"] ["self", "text"] (defScope s_De_put_rules) := ⟨rfl, rfl, rfl, by decide +kernel, rfl, by decide +kernel, by decide +kernel⟩
theorem sc_De_enter : FnScope ["self", "number", "wanted", "judges", "many"] ["self", "number", "wanted", "judges"] (defScope s_De_enter) := ⟨rfl, rfl, rfl, by decide +kernel, rfl, by decide +kernel, by decide +kernel⟩
theorem sc_De_want : FnScope ["self", "number", "wanted", "school", "load"] ["self", "number", "wanted"] (defScope s_De_want) := ⟨rfl, rfl, rfl, by decide +kernel, rfl, by decide +kernel, by decide +kernel⟩
theorem sc_De_bring : FnScope ["self", "number", "judges", "school"] ["self", "number", "judges"] (defScope s_De_bring) := ⟨rfl, rfl, rfl, by decide +kernel, rfl, by decide +kernel, by decide +kernel⟩
theorem sc_De_accept : FnScope ["self", "number", "offer", "school"] ["self", "number"] (defScope s_De_accept) := ⟨rfl, rfl, rfl, by decide +kernel, rfl, by decide +kernel, by decide +kernel⟩
theorem sc_De_decline : FnScope ["self", "number", "offer", "school"] ["self", "number"] (defScope s_De_decline) := ⟨rfl, rfl, rfl, by decide +kernel, rfl, by decide +kernel, by decide +kernel⟩
theorem sc_De_drop : FnScope ["self", "number", "many", "school", "given"] ["self", "number", "many"] (defScope s_De_drop) := ⟨rfl, rfl, rfl, by decide +kernel, rfl, by decide +kernel, by decide +kernel⟩
theorem sc_De_transfer : FnScope ["self", "one", "other", "first", "second", "fee"] ["self", "one", "other"] (defScope s_De_transfer) := ⟨rfl, rfl, rfl, by decide +kernel, rfl, by decide +kernel, by decide +kernel⟩
theorem sc_De_pay : FnScope ["self", "number", "much", "school"] ["self", "number", "much"] (defScope s_De_pay) := ⟨rfl, rfl, rfl, by decide +kernel, rfl, by decide +kernel, by decide +kernel⟩
theorem sc_De_payout : FnScope ["self", "number", "school", "much"] ["self", "number"] (defScope s_De_payout) := ⟨rfl, rfl, rfl, by decide +kernel, rfl, by decide +kernel, by decide +kernel⟩
theorem sc_De_night : FnScope ["self", "many", "made", "turn", "found", "offer"] ["self", "many"] (defScope s_De_night) := ⟨rfl, rfl, rfl, by decide +kernel, rfl, by decide +kernel, by decide +kernel⟩
theorem sc_De_close : FnScope ["self", "state", "row", "school", "taken"] ["self"] (defScope s_De_close) := ⟨rfl, rfl, rfl, by decide +kernel, rfl, by decide +kernel, by decide +kernel⟩
theorem sc_De_school_told : FnScope ["self", "number", "school", "owed"] ["self", "number"] (defScope s_De_school_told) := ⟨rfl, rfl, rfl, by decide +kernel, rfl, by decide +kernel, by decide +kernel⟩
theorem sc_De_offers_told : FnScope ["self", "rows", "offer", "last"] ["self"] (defScope s_De_offers_told) := ⟨rfl, rfl, rfl, by decide +kernel, rfl, by decide +kernel, by decide +kernel⟩
theorem sc_De_money : FnScope ["self", "schools", "rows", "school", "sort", "row"] ["self"] (defScope s_De_money) := ⟨rfl, rfl, rfl, by decide +kernel, rfl, by decide +kernel, by decide +kernel⟩
theorem sc_De_counts : FnScope ["self", "state", "found"] ["self"] (defScope s_De_counts) := ⟨rfl, rfl, rfl, by decide +kernel, rfl, by decide +kernel, by decide +kernel⟩
theorem sc_f_first_told : FnScope ["desk", "call", "numbers", "row", "shown"] ["desk", "call", "numbers", "row"] (defScope s_f_first_told) := ⟨rfl, rfl, rfl, by decide +kernel, rfl, by decide +kernel, by decide +kernel⟩
theorem sc_f_call_told : FnScope ["desk", "call", "numbers", "row", "school", "queue"] ["desk", "call", "numbers", "row"] (defScope s_f_call_told) := ⟨rfl, rfl, rfl, by decide +kernel, rfl, by decide +kernel, by decide +kernel⟩
theorem sc_f_answer_of : FnScope ["desk", "call", "numbers", "row", "e"] ["desk", "call", "numbers", "row"] (defScope s_f_answer_of) := ⟨rfl, rfl, rfl, by decide +kernel, rfl, by decide +kernel, by decide +kernel⟩
theorem sc_Cr_init : FnScope ["self", "calls"] ["self", "calls"] (defScope s_Cr_init) := ⟨rfl, rfl, rfl, by decide +kernel, rfl, by decide +kernel, by decide +kernel⟩
theorem sc_Cr_is_done : FnScope ["self"] ["self"] (defScope s_Cr_is_done) := ⟨rfl, rfl, rfl, by decide +kernel, rfl, by decide +kernel, by decide +kernel⟩
theorem sc_Cr_next_some : FnScope ["self", "many"] ["self", "many"] (defScope s_Cr_next_some) := ⟨rfl, rfl, rfl, by decide +kernel, rfl, by decide +kernel, by decide +kernel⟩
theorem sc_f_answers : FnScope ["calls", "desk", "reader", "found", "call", "numbers", "row", "answer"] ["calls"] (defScope s_f_answers) := ⟨rfl, rfl, rfl, by decide +kernel, rfl, by decide +kernel, by decide +kernel⟩
/-- the scope of the outer comprehension of money, as it runs -/
abbrev scIn : Scope := { kind := .function, names := [(".0", .local), ("sort", .cell), ("sum", .globalImplicit), ("rows", .cell)], isGenerator := false, isCoroutine := false }
/-! ### addresses -/
structure Ads where
  Wr : Addr
  Ru : Addr
  Sc : Addr
  Of : Addr
  St : Addr
  Re : Addr
  De : Addr
  Cr : Addr
  Wr_init : Addr
  Ru_init : Addr
  Ru_put : Addr
  Ru_rows : Addr
  Ru_owed : Addr
  Ru_percent : Addr
  Ru_given_back : Addr
  Ru_shown : Addr
  f_words_of : Addr
  f_rows_of : Addr
  f_number_of : Addr
  f_is_word : Addr
  f_bounds_of : Addr
  f_are_pairs : Addr
  f_are_right : Addr
  f_put_row : Addr
  f_rules_of : Addr
  Sc_init : Addr
  Sc_account : Addr
  Sc_money : Addr
  Of_init : Addr
  St_init : Addr
  St_school_at : Addr
  St_offer_at : Addr
  St_standing : Addr
  St_load : Addr
  St_loads : Addr
  St_taken : Addr
  St_waits : Addr
  St_following : Addr
  St_queue : Addr
  St_make_offers : Addr
  St_pass_night : Addr
  St_take_away : Addr
  St_missing : Addr
  St_close : Addr
  Re_init : Addr
  f_refuse_if : Addr
  f_with_rows : Addr
  De_init : Addr
  De_look_up : Addr
  De_offer : Addr
  De_look_closed : Addr
  De_look_entries : Addr
  De_clear : Addr
  De_put_rules : Addr
  De_enter : Addr
  De_want : Addr
  De_bring : Addr
  De_accept : Addr
  De_decline : Addr
  De_drop : Addr
  De_transfer : Addr
  De_pay : Addr
  De_payout : Addr
  De_night : Addr
  De_close : Addr
  De_school_told : Addr
  De_offers_told : Addr
  De_money : Addr
  De_counts : Addr
  f_first_told : Addr
  f_call_told : Addr
  f_answer_of : Addr
  Cr_init : Addr
  Cr_is_done : Addr
  Cr_next_some : Addr
  f_answers : Addr
  ORDER : Addr
  NUMBERS : Addr
  ROWS : Addr
def CI (mg : Str → Option Value) (x : Str) (i : Int) : Prop := ∃ t, mg x = some (.int i t)
def Fn (K : PySem.W.Frag) (x qual : Str) (st : Stmt) (f : Addr) : Prop := ∃ fd, Fun K x qual st f fd
/-- a tuple of the top -/
def Tp (K : PySem.W.Frag) (a : Addr) (xs : List V) : Prop := ∃ (o : Obj) (its : Array Value) (n : Nat), K.lookup a = some o ∧ o.cls = .type "tuple" ∧ o.data = .seq its n ∧ its.size ≤ sizeLine ∧ Vals xs its.toList
def vals_ORDER : List V := [.str "places", .str "form", .str "cap", .str "judges", .str "fee", .str "fine", .str "answer", .str "start", .str "back"]
def vals_NUMBERS : List V := [.int 0, .int 0, .int 0, .int 3, .int 2, .int 2, .int 1, .int 1, .int 2, .int 2, .int 2, .int 1, .int 1, .int 0, .int 1, .int 1, .int 0, .int 0, .int 0, .int 0]
def vals_ROWS : List V := [.int 0, .int 1, .int 0, .int 0, .int 0, .int 0, .int 0, .int 0, .int 0, .int 0, .int 0, .int 0, .int 0, .int 0, .int 0, .int 0, .int 0, .int 0, .int 0, .int 0]
structure Tx (K : PySem.W.Frag) (mg : Str → Option Value) (A : Ads) : Prop where
  b_len : mg "len" = none
  b_sum : mg "sum" = none
  b_max : mg "max" = none
  b_ord : mg "ord" = none
  b_int : mg "int" = none
  b_str : mg "str" = none
  b_range : mg "range" = none
  b_enumerate : mg "enumerate" = none
  b_zip : mg "zip" = none
  c_BLANK : CI mg "BLANK" 32
  c_ROW_END : CI mg "ROW_END" 10
  c_MOST_DIGITS : CI mg "MOST_DIGITS" 4
  c_MOST_PAIRS : CI mg "MOST_PAIRS" 6
  c_MOST_DAYS : CI mg "MOST_DAYS" 200
  c_MOST_PERCENT : CI mg "MOST_PERCENT" 100
  c_NO_WORD : CI mg "NO_WORD" 1
  c_TWICE : CI mg "TWICE" 2
  c_NO_NUMBERS : CI mg "NO_NUMBERS" 3
  c_ORDER : mg "ORDER" = some (.ref A.ORDER)
  t_ORDER : Tp K A.ORDER vals_ORDER
  c_MOST_ENTRIES : CI mg "MOST_ENTRIES" 400
  c_MOST_SCHOOLS : CI mg "MOST_SCHOOLS" 30
  c_CLEAR : CI mg "CLEAR" 0
  c_RULES : CI mg "RULES" 1
  c_SHOW : CI mg "SHOW" 2
  c_ENTER : CI mg "ENTER" 3
  c_WANT : CI mg "WANT" 4
  c_BRING : CI mg "BRING" 5
  c_ACCEPT : CI mg "ACCEPT" 6
  c_DECLINE : CI mg "DECLINE" 7
  c_DROP : CI mg "DROP" 8
  c_TRANSFER : CI mg "TRANSFER" 9
  c_PAY : CI mg "PAY" 10
  c_PAYOUT : CI mg "PAYOUT" 11
  c_NIGHT : CI mg "NIGHT" 12
  c_CLOSE : CI mg "CLOSE" 13
  c_SCHOOL : CI mg "SCHOOL" 14
  c_ACCOUNT : CI mg "ACCOUNT" 15
  c_OFFERS : CI mg "OFFERS" 16
  c_QUEUE : CI mg "QUEUE" 17
  c_MONEY : CI mg "MONEY" 18
  c_MOST_TEXT : CI mg "MOST_TEXT" 1000
  c_MOST_DAY : CI mg "MOST_DAY" 1000
  c_NUMBERS : mg "NUMBERS" = some (.ref A.NUMBERS)
  t_NUMBERS : Tp K A.NUMBERS vals_NUMBERS
  c_ROWS : mg "ROWS" = some (.ref A.ROWS)
  t_ROWS : Tp K A.ROWS vals_ROWS
  g_Wr : mg "WrongRow" = some (.ref A.Wr)
  na_Wr_kind : NoAttr K A.Wr "kind"
  na_Wr_row : NoAttr K A.Wr "row"
  ox_Wr : OexC K A.Wr
  i_Wr : PySem.W.findIn K (.ref A.Wr) "__init__" = some (some (.ref A.Wr_init))
  ti_Wr : PySem.W.typeIn K (.ref A.Wr_init) = some (.type "function")
  xf_Wr : XfC K A.Wr
  te_Wr : PySem.W.exmOne K (.ref A.Wr) (.ref A.Wr) = some true
  g_Ru : mg "Rules" = some (.ref A.Ru)
  na_Ru_places : NoAttr K A.Ru "places"
  na_Ru_form : NoAttr K A.Ru "form"
  na_Ru_cap : NoAttr K A.Ru "cap"
  na_Ru_judges : NoAttr K A.Ru "judges"
  na_Ru_fee : NoAttr K A.Ru "fee"
  na_Ru_fine : NoAttr K A.Ru "fine"
  na_Ru_answer : NoAttr K A.Ru "answer"
  na_Ru_begin : NoAttr K A.Ru "begin"
  na_Ru_back : NoAttr K A.Ru "back"
  cl_Ru : Cls K A.Ru
  mk_Ru : Mk K A.Ru A.Ru_init
  g_Sc : mg "School" = some (.ref A.Sc)
  na_Sc_number : NoAttr K A.Sc "number"
  na_Sc_wanted : NoAttr K A.Sc "wanted"
  na_Sc_has : NoAttr K A.Sc "has"
  na_Sc_judges : NoAttr K A.Sc "judges"
  na_Sc_paid : NoAttr K A.Sc "paid"
  na_Sc_fees : NoAttr K A.Sc "fees"
  na_Sc_given : NoAttr K A.Sc "given"
  na_Sc_fines : NoAttr K A.Sc "fines"
  na_Sc_out : NoAttr K A.Sc "out"
  cl_Sc : Cls K A.Sc
  mk_Sc : Mk K A.Sc A.Sc_init
  g_Of : mg "Offer" = some (.ref A.Of)
  na_Of_number : NoAttr K A.Of "number"
  na_Of_school : NoAttr K A.Of "school"
  na_Of_day : NoAttr K A.Of "day"
  cl_Of : Cls K A.Of
  mk_Of : Mk K A.Of A.Of_init
  g_St : mg "State" = some (.ref A.St)
  na_St_rules : NoAttr K A.St "rules"
  na_St_schools : NoAttr K A.St "schools"
  na_St_offers : NoAttr K A.St "offers"
  na_St_made : NoAttr K A.St "made"
  na_St_day : NoAttr K A.St "day"
  na_St_is_closed : NoAttr K A.St "is_closed"
  na_St_entries : NoAttr K A.St "entries"
  cl_St : Cls K A.St
  mk_St : Mk K A.St A.St_init
  g_Re : mg "Refused" = some (.ref A.Re)
  na_Re_why : NoAttr K A.Re "why"
  ox_Re : OexC K A.Re
  i_Re : PySem.W.findIn K (.ref A.Re) "__init__" = some (some (.ref A.Re_init))
  ti_Re : PySem.W.typeIn K (.ref A.Re_init) = some (.type "function")
  xf_Re : XfC K A.Re
  te_Re : PySem.W.exmOne K (.ref A.Re) (.ref A.Re) = some true
  g_De : mg "Desk" = some (.ref A.De)
  na_De_state : NoAttr K A.De "state"
  cl_De : Cls K A.De
  mk_De : Mk K A.De A.De_init
  g_Cr : mg "CallReader" = some (.ref A.Cr)
  na_Cr_calls : NoAttr K A.Cr "calls"
  na_Cr_at : NoAttr K A.Cr "at"
  cl_Cr : Cls K A.Cr
  mk_Cr : Mk K A.Cr A.Cr_init
  fn_Wr_init : Fn K "__init__" "WrongRow.__init__" s_Wr_init A.Wr_init
  fn_Ru_init : Fn K "__init__" "Rules.__init__" s_Ru_init A.Ru_init
  fn_Ru_put : Fn K "put" "Rules.put" s_Ru_put A.Ru_put
  m_Ru_put : Meth K A.Ru "put" A.Ru_put
  fn_Ru_rows : Fn K "rows" "Rules.rows" s_Ru_rows A.Ru_rows
  m_Ru_rows : Meth K A.Ru "rows" A.Ru_rows
  fn_Ru_owed : Fn K "owed" "Rules.owed" s_Ru_owed A.Ru_owed
  m_Ru_owed : Meth K A.Ru "owed" A.Ru_owed
  fn_Ru_percent : Fn K "percent" "Rules.percent" s_Ru_percent A.Ru_percent
  m_Ru_percent : Meth K A.Ru "percent" A.Ru_percent
  fn_Ru_given_back : Fn K "given_back" "Rules.given_back" s_Ru_given_back A.Ru_given_back
  m_Ru_given_back : Meth K A.Ru "given_back" A.Ru_given_back
  fn_Ru_shown : Fn K "shown" "Rules.shown" s_Ru_shown A.Ru_shown
  m_Ru_shown : Meth K A.Ru "shown" A.Ru_shown
  fn_f_words_of : Fn K "words_of" "words_of" s_f_words_of A.f_words_of
  g_f_words_of : mg "words_of" = some (.ref A.f_words_of)
  k_f_words_of : PySem.W.keepIn K (.ref A.f_words_of) = true
  fn_f_rows_of : Fn K "rows_of" "rows_of" s_f_rows_of A.f_rows_of
  g_f_rows_of : mg "rows_of" = some (.ref A.f_rows_of)
  k_f_rows_of : PySem.W.keepIn K (.ref A.f_rows_of) = true
  fn_f_number_of : Fn K "number_of" "number_of" s_f_number_of A.f_number_of
  g_f_number_of : mg "number_of" = some (.ref A.f_number_of)
  k_f_number_of : PySem.W.keepIn K (.ref A.f_number_of) = true
  fn_f_is_word : Fn K "is_word" "is_word" s_f_is_word A.f_is_word
  g_f_is_word : mg "is_word" = some (.ref A.f_is_word)
  k_f_is_word : PySem.W.keepIn K (.ref A.f_is_word) = true
  fn_f_bounds_of : Fn K "bounds_of" "bounds_of" s_f_bounds_of A.f_bounds_of
  g_f_bounds_of : mg "bounds_of" = some (.ref A.f_bounds_of)
  k_f_bounds_of : PySem.W.keepIn K (.ref A.f_bounds_of) = true
  fn_f_are_pairs : Fn K "are_pairs" "are_pairs" s_f_are_pairs A.f_are_pairs
  g_f_are_pairs : mg "are_pairs" = some (.ref A.f_are_pairs)
  k_f_are_pairs : PySem.W.keepIn K (.ref A.f_are_pairs) = true
  fn_f_are_right : Fn K "are_right" "are_right" s_f_are_right A.f_are_right
  g_f_are_right : mg "are_right" = some (.ref A.f_are_right)
  k_f_are_right : PySem.W.keepIn K (.ref A.f_are_right) = true
  fn_f_put_row : Fn K "put_row" "put_row" s_f_put_row A.f_put_row
  g_f_put_row : mg "put_row" = some (.ref A.f_put_row)
  k_f_put_row : PySem.W.keepIn K (.ref A.f_put_row) = true
  fn_f_rules_of : Fn K "rules_of" "rules_of" s_f_rules_of A.f_rules_of
  g_f_rules_of : mg "rules_of" = some (.ref A.f_rules_of)
  k_f_rules_of : PySem.W.keepIn K (.ref A.f_rules_of) = true
  fn_Sc_init : Fn K "__init__" "School.__init__" s_Sc_init A.Sc_init
  fn_Sc_account : Fn K "account" "School.account" s_Sc_account A.Sc_account
  m_Sc_account : Meth K A.Sc "account" A.Sc_account
  fn_Sc_money : Fn K "money" "School.money" s_Sc_money A.Sc_money
  m_Sc_money : Meth K A.Sc "money" A.Sc_money
  fn_Of_init : Fn K "__init__" "Offer.__init__" s_Of_init A.Of_init
  fn_St_init : Fn K "__init__" "State.__init__" s_St_init A.St_init
  fn_St_school_at : Fn K "school_at" "State.school_at" s_St_school_at A.St_school_at
  m_St_school_at : Meth K A.St "school_at" A.St_school_at
  fn_St_offer_at : Fn K "offer_at" "State.offer_at" s_St_offer_at A.St_offer_at
  m_St_offer_at : Meth K A.St "offer_at" A.St_offer_at
  fn_St_standing : Fn K "standing" "State.standing" s_St_standing A.St_standing
  m_St_standing : Meth K A.St "standing" A.St_standing
  fn_St_load : Fn K "load" "State.load" s_St_load A.St_load
  m_St_load : Meth K A.St "load" A.St_load
  fn_St_loads : Fn K "loads" "State.loads" s_St_loads A.St_loads
  m_St_loads : Meth K A.St "loads" A.St_loads
  fn_St_taken : Fn K "taken" "State.taken" s_St_taken A.St_taken
  m_St_taken : Meth K A.St "taken" A.St_taken
  fn_St_waits : Fn K "waits" "State.waits" s_St_waits A.St_waits
  m_St_waits : Meth K A.St "waits" A.St_waits
  fn_St_following : Fn K "following" "State.following" s_St_following A.St_following
  m_St_following : Meth K A.St "following" A.St_following
  fn_St_queue : Fn K "queue" "State.queue" s_St_queue A.St_queue
  m_St_queue : Meth K A.St "queue" A.St_queue
  fn_St_make_offers : Fn K "make_offers" "State.make_offers" s_St_make_offers A.St_make_offers
  m_St_make_offers : Meth K A.St "make_offers" A.St_make_offers
  fn_St_pass_night : Fn K "pass_night" "State.pass_night" s_St_pass_night A.St_pass_night
  m_St_pass_night : Meth K A.St "pass_night" A.St_pass_night
  fn_St_take_away : Fn K "take_away" "State.take_away" s_St_take_away A.St_take_away
  m_St_take_away : Meth K A.St "take_away" A.St_take_away
  fn_St_missing : Fn K "missing" "State.missing" s_St_missing A.St_missing
  m_St_missing : Meth K A.St "missing" A.St_missing
  fn_St_close : Fn K "close" "State.close" s_St_close A.St_close
  m_St_close : Meth K A.St "close" A.St_close
  fn_Re_init : Fn K "__init__" "Refused.__init__" s_Re_init A.Re_init
  fn_f_refuse_if : Fn K "refuse_if" "refuse_if" s_f_refuse_if A.f_refuse_if
  g_f_refuse_if : mg "refuse_if" = some (.ref A.f_refuse_if)
  k_f_refuse_if : PySem.W.keepIn K (.ref A.f_refuse_if) = true
  fn_f_with_rows : Fn K "with_rows" "with_rows" s_f_with_rows A.f_with_rows
  g_f_with_rows : mg "with_rows" = some (.ref A.f_with_rows)
  k_f_with_rows : PySem.W.keepIn K (.ref A.f_with_rows) = true
  fn_De_init : Fn K "__init__" "Desk.__init__" s_De_init A.De_init
  fn_De_look_up : Fn K "look_up" "Desk.look_up" s_De_look_up A.De_look_up
  m_De_look_up : Meth K A.De "look_up" A.De_look_up
  fn_De_offer : Fn K "offer" "Desk.offer" s_De_offer A.De_offer
  m_De_offer : Meth K A.De "offer" A.De_offer
  fn_De_look_closed : Fn K "look_closed" "Desk.look_closed" s_De_look_closed A.De_look_closed
  m_De_look_closed : Meth K A.De "look_closed" A.De_look_closed
  fn_De_look_entries : Fn K "look_entries" "Desk.look_entries" s_De_look_entries A.De_look_entries
  m_De_look_entries : Meth K A.De "look_entries" A.De_look_entries
  fn_De_clear : Fn K "clear" "Desk.clear" s_De_clear A.De_clear
  m_De_clear : Meth K A.De "clear" A.De_clear
  fn_De_put_rules : Fn K "put_rules" "Desk.put_rules" s_De_put_rules A.De_put_rules
  m_De_put_rules : Meth K A.De "put_rules" A.De_put_rules
  fn_De_enter : Fn K "enter" "Desk.enter" s_De_enter A.De_enter
  m_De_enter : Meth K A.De "enter" A.De_enter
  fn_De_want : Fn K "want" "Desk.want" s_De_want A.De_want
  m_De_want : Meth K A.De "want" A.De_want
  fn_De_bring : Fn K "bring" "Desk.bring" s_De_bring A.De_bring
  m_De_bring : Meth K A.De "bring" A.De_bring
  fn_De_accept : Fn K "accept" "Desk.accept" s_De_accept A.De_accept
  m_De_accept : Meth K A.De "accept" A.De_accept
  fn_De_decline : Fn K "decline" "Desk.decline" s_De_decline A.De_decline
  m_De_decline : Meth K A.De "decline" A.De_decline
  fn_De_drop : Fn K "drop" "Desk.drop" s_De_drop A.De_drop
  m_De_drop : Meth K A.De "drop" A.De_drop
  fn_De_transfer : Fn K "transfer" "Desk.transfer" s_De_transfer A.De_transfer
  m_De_transfer : Meth K A.De "transfer" A.De_transfer
  fn_De_pay : Fn K "pay" "Desk.pay" s_De_pay A.De_pay
  m_De_pay : Meth K A.De "pay" A.De_pay
  fn_De_payout : Fn K "payout" "Desk.payout" s_De_payout A.De_payout
  m_De_payout : Meth K A.De "payout" A.De_payout
  fn_De_night : Fn K "night" "Desk.night" s_De_night A.De_night
  m_De_night : Meth K A.De "night" A.De_night
  fn_De_close : Fn K "close" "Desk.close" s_De_close A.De_close
  m_De_close : Meth K A.De "close" A.De_close
  fn_De_school_told : Fn K "school_told" "Desk.school_told" s_De_school_told A.De_school_told
  m_De_school_told : Meth K A.De "school_told" A.De_school_told
  fn_De_offers_told : Fn K "offers_told" "Desk.offers_told" s_De_offers_told A.De_offers_told
  m_De_offers_told : Meth K A.De "offers_told" A.De_offers_told
  fn_De_money : Fn K "money" "Desk.money" s_De_money A.De_money
  m_De_money : Meth K A.De "money" A.De_money
  fn_De_counts : Fn K "counts" "Desk.counts" s_De_counts A.De_counts
  m_De_counts : Meth K A.De "counts" A.De_counts
  fn_f_first_told : Fn K "first_told" "first_told" s_f_first_told A.f_first_told
  g_f_first_told : mg "first_told" = some (.ref A.f_first_told)
  k_f_first_told : PySem.W.keepIn K (.ref A.f_first_told) = true
  fn_f_call_told : Fn K "call_told" "call_told" s_f_call_told A.f_call_told
  g_f_call_told : mg "call_told" = some (.ref A.f_call_told)
  k_f_call_told : PySem.W.keepIn K (.ref A.f_call_told) = true
  fn_f_answer_of : Fn K "answer_of" "answer_of" s_f_answer_of A.f_answer_of
  g_f_answer_of : mg "answer_of" = some (.ref A.f_answer_of)
  k_f_answer_of : PySem.W.keepIn K (.ref A.f_answer_of) = true
  fn_Cr_init : Fn K "__init__" "CallReader.__init__" s_Cr_init A.Cr_init
  fn_Cr_is_done : Fn K "is_done" "CallReader.is_done" s_Cr_is_done A.Cr_is_done
  m_Cr_is_done : Meth K A.Cr "is_done" A.Cr_is_done
  fn_Cr_next_some : Fn K "next_some" "CallReader.next_some" s_Cr_next_some A.Cr_next_some
  m_Cr_next_some : Meth K A.Cr "next_some" A.Cr_next_some
  fn_f_answers : Fn K "answers" "answers" s_f_answers A.f_answers
  g_f_answers : mg "answers" = some (.ref A.f_answers)
  k_f_answers : PySem.W.keepIn K (.ref A.f_answers) = true
/-- a def keeps its promise -/
def Okd (P : Program) (w : World) (K : PySem.W.Frag) (mg : Str → Option Value) (base : Heap) (C : CXT) (k : Nat) (f : Addr) (ps : List Str) (sp : Sp) : Prop := ∃ fd, FnOk P w K mg base C k f fd ps sp ∧ Binds K fd ps []
section
variable {X : Cx}
theorem pe_gi {x : Str} {i : Int} {pos : Pos} (hg : Gl X x) (h : CI X.mg x i) (hd : (x == ("__debug__" : Str)) = false := by decide) : PE X (.Name x pos) (tC (.int i)) := by
  obtain ⟨t, h⟩ := h
  exact pe_glob hg h ⟨t, rfl⟩ hd
end
theorem Tp.sq {K : PySem.W.Frag} {a : Addr} {xs : List V} (h : Tp K a xs) (H : Hp) : SqT K H a xs := .inr h
end Eh

-- EhH
set_option Elab.async false
set_option linter.all false
set_option maxRecDepth 100000
set_option maxHeartbeats 4000000
namespace Eh
open PySem PySem.Spec PyProof.Rows L2 EhR EhZ Evl
/-! ### objects in the heap -/
structure Lay where
  st : Addr
  ru : Addr
  rl : List Addr
  sl : Addr
  ss : List Addr
  ol : Addr
  os : List Addr
theorem lk_here {k : Str} {v : V} {r : List (Str × V)} : List.lookup k ((k, v) :: r) = some v := by
  have e : (k == k) = true := beq_self_eq_true k
  simp only [List.lookup, e]
theorem lk_past {k g : Str} {v : V} {r : List (Str × V)} (h : (k == g) = false) : List.lookup k ((g, v) :: r) = List.lookup k r := by
  simp only [List.lookup, h]
theorem put_here {f : Str} {v x : V} {r : List (Str × V)} : putF f v ((f, x) :: r) = (f, v) :: r := if_pos rfl
theorem put_past {f g : Str} {v x : V} {r : List (Str × V)} (h : ¬ g = f) : putF f v ((g, x) :: r) = (g, x) :: putF f v r := if_neg h
def msF (s : MS) : List (Str × V) := [("number", .int s.number), ("wanted", .int s.wanted), ("has", .int s.has), ("judges", .int s.judges), ("paid", .int s.paid), ("fees", .int s.fees), ("given", .int s.given), ("fines", .int s.fines), ("out", .int s.out)]
def moF (o : MO) : List (Str × V) := [("number", .int o.number), ("school", .int o.school), ("day", .int o.day)]
def ruF (rl : List Addr) : List (Str × V) := [("places", .ref (rl.getD 0 0)), ("form", .ref (rl.getD 1 0)), ("cap", .ref (rl.getD 2 0)), ("judges", .ref (rl.getD 3 0)), ("fee", .ref (rl.getD 4 0)), ("fine", .ref (rl.getD 5 0)), ("answer", .ref (rl.getD 6 0)), ("begin", .ref (rl.getD 7 0)), ("back", .ref (rl.getD 8 0))]
def stF (L : Lay) (m : M) : List (Str × V) := [("rules", .ref L.ru), ("schools", .ref L.sl), ("offers", .ref L.ol), ("made", .int m.made), ("day", .int m.day), ("is_closed", .bl m.closed), ("entries", .int m.entries)]
def deF (st : Addr) : List (Str × V) := [("state", .ref st)]
def crF (c : Addr) (i : Int) : List (Str × V) := [("calls", .ref c), ("at", .int i)]
theorem lk_Sc_number (s : MS) : (msF s).lookup ("number" : Str) = some (.int s.number) := lk_here
theorem lk_Sc_wanted (s : MS) : (msF s).lookup ("wanted" : Str) = some (.int s.wanted) := (lk_past (by decide +kernel)).trans <| lk_here
theorem lk_Sc_has (s : MS) : (msF s).lookup ("has" : Str) = some (.int s.has) := (lk_past (by decide +kernel)).trans <| (lk_past (by decide +kernel)).trans <| lk_here
theorem lk_Sc_judges (s : MS) : (msF s).lookup ("judges" : Str) = some (.int s.judges) := (lk_past (by decide +kernel)).trans <| (lk_past (by decide +kernel)).trans <| (lk_past (by decide +kernel)).trans <| lk_here
theorem lk_Sc_paid (s : MS) : (msF s).lookup ("paid" : Str) = some (.int s.paid) := (lk_past (by decide +kernel)).trans <| (lk_past (by decide +kernel)).trans <| (lk_past (by decide +kernel)).trans <| (lk_past (by decide +kernel)).trans <| lk_here
theorem lk_Sc_fees (s : MS) : (msF s).lookup ("fees" : Str) = some (.int s.fees) := (lk_past (by decide +kernel)).trans <| (lk_past (by decide +kernel)).trans <| (lk_past (by decide +kernel)).trans <| (lk_past (by decide +kernel)).trans <| (lk_past (by decide +kernel)).trans <| lk_here
theorem lk_Sc_given (s : MS) : (msF s).lookup ("given" : Str) = some (.int s.given) := (lk_past (by decide +kernel)).trans <| (lk_past (by decide +kernel)).trans <| (lk_past (by decide +kernel)).trans <| (lk_past (by decide +kernel)).trans <| (lk_past (by decide +kernel)).trans <| (lk_past (by decide +kernel)).trans <| lk_here
theorem lk_Sc_fines (s : MS) : (msF s).lookup ("fines" : Str) = some (.int s.fines) := (lk_past (by decide +kernel)).trans <| (lk_past (by decide +kernel)).trans <| (lk_past (by decide +kernel)).trans <| (lk_past (by decide +kernel)).trans <| (lk_past (by decide +kernel)).trans <| (lk_past (by decide +kernel)).trans <| (lk_past (by decide +kernel)).trans <| lk_here
theorem lk_Sc_out (s : MS) : (msF s).lookup ("out" : Str) = some (.int s.out) := (lk_past (by decide +kernel)).trans <| (lk_past (by decide +kernel)).trans <| (lk_past (by decide +kernel)).trans <| (lk_past (by decide +kernel)).trans <| (lk_past (by decide +kernel)).trans <| (lk_past (by decide +kernel)).trans <| (lk_past (by decide +kernel)).trans <| (lk_past (by decide +kernel)).trans <| lk_here
theorem no_Sc_account (s : MS) : (msF s).lookup ("account" : Str) = none := (lk_past (by decide +kernel)).trans <| (lk_past (by decide +kernel)).trans <| (lk_past (by decide +kernel)).trans <| (lk_past (by decide +kernel)).trans <| (lk_past (by decide +kernel)).trans <| (lk_past (by decide +kernel)).trans <| (lk_past (by decide +kernel)).trans <| (lk_past (by decide +kernel)).trans <| (lk_past (by decide +kernel)).trans <| rfl
theorem no_Sc_money (s : MS) : (msF s).lookup ("money" : Str) = none := (lk_past (by decide +kernel)).trans <| (lk_past (by decide +kernel)).trans <| (lk_past (by decide +kernel)).trans <| (lk_past (by decide +kernel)).trans <| (lk_past (by decide +kernel)).trans <| (lk_past (by decide +kernel)).trans <| (lk_past (by decide +kernel)).trans <| (lk_past (by decide +kernel)).trans <| (lk_past (by decide +kernel)).trans <| rfl
theorem put_Sc_number {v0 v1 v2 v3 v4 v5 v6 v7 v8 y : V} : putF "number" y ([("number", v0), ("wanted", v1), ("has", v2), ("judges", v3), ("paid", v4), ("fees", v5), ("given", v6), ("fines", v7), ("out", v8)] : List (Str × V)) = ([("number", y), ("wanted", v1), ("has", v2), ("judges", v3), ("paid", v4), ("fees", v5), ("given", v6), ("fines", v7), ("out", v8)] : List (Str × V)) := put_here
theorem new_Sc_number {y : V} : putF "number" y ([] : List (Str × V)) = ([("number", y)] : List (Str × V)) := rfl
theorem put_Sc_wanted {v0 v1 v2 v3 v4 v5 v6 v7 v8 y : V} : putF "wanted" y ([("number", v0), ("wanted", v1), ("has", v2), ("judges", v3), ("paid", v4), ("fees", v5), ("given", v6), ("fines", v7), ("out", v8)] : List (Str × V)) = ([("number", v0), ("wanted", y), ("has", v2), ("judges", v3), ("paid", v4), ("fees", v5), ("given", v6), ("fines", v7), ("out", v8)] : List (Str × V)) := (put_past (by decide +kernel)).trans (congrArg _ (put_here))
theorem new_Sc_wanted {v0 y : V} : putF "wanted" y ([("number", v0)] : List (Str × V)) = ([("number", v0), ("wanted", y)] : List (Str × V)) := (put_past (by decide +kernel)).trans (congrArg _ (rfl))
theorem put_Sc_has {v0 v1 v2 v3 v4 v5 v6 v7 v8 y : V} : putF "has" y ([("number", v0), ("wanted", v1), ("has", v2), ("judges", v3), ("paid", v4), ("fees", v5), ("given", v6), ("fines", v7), ("out", v8)] : List (Str × V)) = ([("number", v0), ("wanted", v1), ("has", y), ("judges", v3), ("paid", v4), ("fees", v5), ("given", v6), ("fines", v7), ("out", v8)] : List (Str × V)) := (put_past (by decide +kernel)).trans (congrArg _ ((put_past (by decide +kernel)).trans (congrArg _ (put_here))))
theorem new_Sc_has {v0 v1 y : V} : putF "has" y ([("number", v0), ("wanted", v1)] : List (Str × V)) = ([("number", v0), ("wanted", v1), ("has", y)] : List (Str × V)) := (put_past (by decide +kernel)).trans (congrArg _ ((put_past (by decide +kernel)).trans (congrArg _ (rfl))))
theorem put_Sc_judges {v0 v1 v2 v3 v4 v5 v6 v7 v8 y : V} : putF "judges" y ([("number", v0), ("wanted", v1), ("has", v2), ("judges", v3), ("paid", v4), ("fees", v5), ("given", v6), ("fines", v7), ("out", v8)] : List (Str × V)) = ([("number", v0), ("wanted", v1), ("has", v2), ("judges", y), ("paid", v4), ("fees", v5), ("given", v6), ("fines", v7), ("out", v8)] : List (Str × V)) := (put_past (by decide +kernel)).trans (congrArg _ ((put_past (by decide +kernel)).trans (congrArg _ ((put_past (by decide +kernel)).trans (congrArg _ (put_here))))))
theorem new_Sc_judges {v0 v1 v2 y : V} : putF "judges" y ([("number", v0), ("wanted", v1), ("has", v2)] : List (Str × V)) = ([("number", v0), ("wanted", v1), ("has", v2), ("judges", y)] : List (Str × V)) := (put_past (by decide +kernel)).trans (congrArg _ ((put_past (by decide +kernel)).trans (congrArg _ ((put_past (by decide +kernel)).trans (congrArg _ (rfl))))))
theorem put_Sc_paid {v0 v1 v2 v3 v4 v5 v6 v7 v8 y : V} : putF "paid" y ([("number", v0), ("wanted", v1), ("has", v2), ("judges", v3), ("paid", v4), ("fees", v5), ("given", v6), ("fines", v7), ("out", v8)] : List (Str × V)) = ([("number", v0), ("wanted", v1), ("has", v2), ("judges", v3), ("paid", y), ("fees", v5), ("given", v6), ("fines", v7), ("out", v8)] : List (Str × V)) := (put_past (by decide +kernel)).trans (congrArg _ ((put_past (by decide +kernel)).trans (congrArg _ ((put_past (by decide +kernel)).trans (congrArg _ ((put_past (by decide +kernel)).trans (congrArg _ (put_here))))))))
theorem new_Sc_paid {v0 v1 v2 v3 y : V} : putF "paid" y ([("number", v0), ("wanted", v1), ("has", v2), ("judges", v3)] : List (Str × V)) = ([("number", v0), ("wanted", v1), ("has", v2), ("judges", v3), ("paid", y)] : List (Str × V)) := (put_past (by decide +kernel)).trans (congrArg _ ((put_past (by decide +kernel)).trans (congrArg _ ((put_past (by decide +kernel)).trans (congrArg _ ((put_past (by decide +kernel)).trans (congrArg _ (rfl))))))))
theorem put_Sc_fees {v0 v1 v2 v3 v4 v5 v6 v7 v8 y : V} : putF "fees" y ([("number", v0), ("wanted", v1), ("has", v2), ("judges", v3), ("paid", v4), ("fees", v5), ("given", v6), ("fines", v7), ("out", v8)] : List (Str × V)) = ([("number", v0), ("wanted", v1), ("has", v2), ("judges", v3), ("paid", v4), ("fees", y), ("given", v6), ("fines", v7), ("out", v8)] : List (Str × V)) := (put_past (by decide +kernel)).trans (congrArg _ ((put_past (by decide +kernel)).trans (congrArg _ ((put_past (by decide +kernel)).trans (congrArg _ ((put_past (by decide +kernel)).trans (congrArg _ ((put_past (by decide +kernel)).trans (congrArg _ (put_here))))))))))
theorem new_Sc_fees {v0 v1 v2 v3 v4 y : V} : putF "fees" y ([("number", v0), ("wanted", v1), ("has", v2), ("judges", v3), ("paid", v4)] : List (Str × V)) = ([("number", v0), ("wanted", v1), ("has", v2), ("judges", v3), ("paid", v4), ("fees", y)] : List (Str × V)) := (put_past (by decide +kernel)).trans (congrArg _ ((put_past (by decide +kernel)).trans (congrArg _ ((put_past (by decide +kernel)).trans (congrArg _ ((put_past (by decide +kernel)).trans (congrArg _ ((put_past (by decide +kernel)).trans (congrArg _ (rfl))))))))))
theorem put_Sc_given {v0 v1 v2 v3 v4 v5 v6 v7 v8 y : V} : putF "given" y ([("number", v0), ("wanted", v1), ("has", v2), ("judges", v3), ("paid", v4), ("fees", v5), ("given", v6), ("fines", v7), ("out", v8)] : List (Str × V)) = ([("number", v0), ("wanted", v1), ("has", v2), ("judges", v3), ("paid", v4), ("fees", v5), ("given", y), ("fines", v7), ("out", v8)] : List (Str × V)) := (put_past (by decide +kernel)).trans (congrArg _ ((put_past (by decide +kernel)).trans (congrArg _ ((put_past (by decide +kernel)).trans (congrArg _ ((put_past (by decide +kernel)).trans (congrArg _ ((put_past (by decide +kernel)).trans (congrArg _ ((put_past (by decide +kernel)).trans (congrArg _ (put_here))))))))))))
theorem new_Sc_given {v0 v1 v2 v3 v4 v5 y : V} : putF "given" y ([("number", v0), ("wanted", v1), ("has", v2), ("judges", v3), ("paid", v4), ("fees", v5)] : List (Str × V)) = ([("number", v0), ("wanted", v1), ("has", v2), ("judges", v3), ("paid", v4), ("fees", v5), ("given", y)] : List (Str × V)) := (put_past (by decide +kernel)).trans (congrArg _ ((put_past (by decide +kernel)).trans (congrArg _ ((put_past (by decide +kernel)).trans (congrArg _ ((put_past (by decide +kernel)).trans (congrArg _ ((put_past (by decide +kernel)).trans (congrArg _ ((put_past (by decide +kernel)).trans (congrArg _ (rfl))))))))))))
theorem put_Sc_fines {v0 v1 v2 v3 v4 v5 v6 v7 v8 y : V} : putF "fines" y ([("number", v0), ("wanted", v1), ("has", v2), ("judges", v3), ("paid", v4), ("fees", v5), ("given", v6), ("fines", v7), ("out", v8)] : List (Str × V)) = ([("number", v0), ("wanted", v1), ("has", v2), ("judges", v3), ("paid", v4), ("fees", v5), ("given", v6), ("fines", y), ("out", v8)] : List (Str × V)) := (put_past (by decide +kernel)).trans (congrArg _ ((put_past (by decide +kernel)).trans (congrArg _ ((put_past (by decide +kernel)).trans (congrArg _ ((put_past (by decide +kernel)).trans (congrArg _ ((put_past (by decide +kernel)).trans (congrArg _ ((put_past (by decide +kernel)).trans (congrArg _ ((put_past (by decide +kernel)).trans (congrArg _ (put_here))))))))))))))
theorem new_Sc_fines {v0 v1 v2 v3 v4 v5 v6 y : V} : putF "fines" y ([("number", v0), ("wanted", v1), ("has", v2), ("judges", v3), ("paid", v4), ("fees", v5), ("given", v6)] : List (Str × V)) = ([("number", v0), ("wanted", v1), ("has", v2), ("judges", v3), ("paid", v4), ("fees", v5), ("given", v6), ("fines", y)] : List (Str × V)) := (put_past (by decide +kernel)).trans (congrArg _ ((put_past (by decide +kernel)).trans (congrArg _ ((put_past (by decide +kernel)).trans (congrArg _ ((put_past (by decide +kernel)).trans (congrArg _ ((put_past (by decide +kernel)).trans (congrArg _ ((put_past (by decide +kernel)).trans (congrArg _ ((put_past (by decide +kernel)).trans (congrArg _ (rfl))))))))))))))
theorem put_Sc_out {v0 v1 v2 v3 v4 v5 v6 v7 v8 y : V} : putF "out" y ([("number", v0), ("wanted", v1), ("has", v2), ("judges", v3), ("paid", v4), ("fees", v5), ("given", v6), ("fines", v7), ("out", v8)] : List (Str × V)) = ([("number", v0), ("wanted", v1), ("has", v2), ("judges", v3), ("paid", v4), ("fees", v5), ("given", v6), ("fines", v7), ("out", y)] : List (Str × V)) := (put_past (by decide +kernel)).trans (congrArg _ ((put_past (by decide +kernel)).trans (congrArg _ ((put_past (by decide +kernel)).trans (congrArg _ ((put_past (by decide +kernel)).trans (congrArg _ ((put_past (by decide +kernel)).trans (congrArg _ ((put_past (by decide +kernel)).trans (congrArg _ ((put_past (by decide +kernel)).trans (congrArg _ ((put_past (by decide +kernel)).trans (congrArg _ (put_here))))))))))))))))
theorem new_Sc_out {v0 v1 v2 v3 v4 v5 v6 v7 y : V} : putF "out" y ([("number", v0), ("wanted", v1), ("has", v2), ("judges", v3), ("paid", v4), ("fees", v5), ("given", v6), ("fines", v7)] : List (Str × V)) = ([("number", v0), ("wanted", v1), ("has", v2), ("judges", v3), ("paid", v4), ("fees", v5), ("given", v6), ("fines", v7), ("out", y)] : List (Str × V)) := (put_past (by decide +kernel)).trans (congrArg _ ((put_past (by decide +kernel)).trans (congrArg _ ((put_past (by decide +kernel)).trans (congrArg _ ((put_past (by decide +kernel)).trans (congrArg _ ((put_past (by decide +kernel)).trans (congrArg _ ((put_past (by decide +kernel)).trans (congrArg _ ((put_past (by decide +kernel)).trans (congrArg _ ((put_past (by decide +kernel)).trans (congrArg _ (rfl))))))))))))))))
theorem lk_Of_number (o : MO) : (moF o).lookup ("number" : Str) = some (.int o.number) := lk_here
theorem lk_Of_school (o : MO) : (moF o).lookup ("school" : Str) = some (.int o.school) := (lk_past (by decide +kernel)).trans <| lk_here
theorem lk_Of_day (o : MO) : (moF o).lookup ("day" : Str) = some (.int o.day) := (lk_past (by decide +kernel)).trans <| (lk_past (by decide +kernel)).trans <| lk_here
theorem put_Of_number {v0 v1 v2 y : V} : putF "number" y ([("number", v0), ("school", v1), ("day", v2)] : List (Str × V)) = ([("number", y), ("school", v1), ("day", v2)] : List (Str × V)) := put_here
theorem new_Of_number {y : V} : putF "number" y ([] : List (Str × V)) = ([("number", y)] : List (Str × V)) := rfl
theorem put_Of_school {v0 v1 v2 y : V} : putF "school" y ([("number", v0), ("school", v1), ("day", v2)] : List (Str × V)) = ([("number", v0), ("school", y), ("day", v2)] : List (Str × V)) := (put_past (by decide +kernel)).trans (congrArg _ (put_here))
theorem new_Of_school {v0 y : V} : putF "school" y ([("number", v0)] : List (Str × V)) = ([("number", v0), ("school", y)] : List (Str × V)) := (put_past (by decide +kernel)).trans (congrArg _ (rfl))
theorem put_Of_day {v0 v1 v2 y : V} : putF "day" y ([("number", v0), ("school", v1), ("day", v2)] : List (Str × V)) = ([("number", v0), ("school", v1), ("day", y)] : List (Str × V)) := (put_past (by decide +kernel)).trans (congrArg _ ((put_past (by decide +kernel)).trans (congrArg _ (put_here))))
theorem new_Of_day {v0 v1 y : V} : putF "day" y ([("number", v0), ("school", v1)] : List (Str × V)) = ([("number", v0), ("school", v1), ("day", y)] : List (Str × V)) := (put_past (by decide +kernel)).trans (congrArg _ ((put_past (by decide +kernel)).trans (congrArg _ (rfl))))
theorem lk_Ru_places (rl : List Addr) : (ruF rl).lookup ("places" : Str) = some (.ref (rl.getD 0 0)) := lk_here
theorem lk_Ru_form (rl : List Addr) : (ruF rl).lookup ("form" : Str) = some (.ref (rl.getD 1 0)) := (lk_past (by decide +kernel)).trans <| lk_here
theorem lk_Ru_cap (rl : List Addr) : (ruF rl).lookup ("cap" : Str) = some (.ref (rl.getD 2 0)) := (lk_past (by decide +kernel)).trans <| (lk_past (by decide +kernel)).trans <| lk_here
theorem lk_Ru_judges (rl : List Addr) : (ruF rl).lookup ("judges" : Str) = some (.ref (rl.getD 3 0)) := (lk_past (by decide +kernel)).trans <| (lk_past (by decide +kernel)).trans <| (lk_past (by decide +kernel)).trans <| lk_here
theorem lk_Ru_fee (rl : List Addr) : (ruF rl).lookup ("fee" : Str) = some (.ref (rl.getD 4 0)) := (lk_past (by decide +kernel)).trans <| (lk_past (by decide +kernel)).trans <| (lk_past (by decide +kernel)).trans <| (lk_past (by decide +kernel)).trans <| lk_here
theorem lk_Ru_fine (rl : List Addr) : (ruF rl).lookup ("fine" : Str) = some (.ref (rl.getD 5 0)) := (lk_past (by decide +kernel)).trans <| (lk_past (by decide +kernel)).trans <| (lk_past (by decide +kernel)).trans <| (lk_past (by decide +kernel)).trans <| (lk_past (by decide +kernel)).trans <| lk_here
theorem lk_Ru_answer (rl : List Addr) : (ruF rl).lookup ("answer" : Str) = some (.ref (rl.getD 6 0)) := (lk_past (by decide +kernel)).trans <| (lk_past (by decide +kernel)).trans <| (lk_past (by decide +kernel)).trans <| (lk_past (by decide +kernel)).trans <| (lk_past (by decide +kernel)).trans <| (lk_past (by decide +kernel)).trans <| lk_here
theorem lk_Ru_begin (rl : List Addr) : (ruF rl).lookup ("begin" : Str) = some (.ref (rl.getD 7 0)) := (lk_past (by decide +kernel)).trans <| (lk_past (by decide +kernel)).trans <| (lk_past (by decide +kernel)).trans <| (lk_past (by decide +kernel)).trans <| (lk_past (by decide +kernel)).trans <| (lk_past (by decide +kernel)).trans <| (lk_past (by decide +kernel)).trans <| lk_here
theorem lk_Ru_back (rl : List Addr) : (ruF rl).lookup ("back" : Str) = some (.ref (rl.getD 8 0)) := (lk_past (by decide +kernel)).trans <| (lk_past (by decide +kernel)).trans <| (lk_past (by decide +kernel)).trans <| (lk_past (by decide +kernel)).trans <| (lk_past (by decide +kernel)).trans <| (lk_past (by decide +kernel)).trans <| (lk_past (by decide +kernel)).trans <| (lk_past (by decide +kernel)).trans <| lk_here
theorem no_Ru_put (rl : List Addr) : (ruF rl).lookup ("put" : Str) = none := (lk_past (by decide +kernel)).trans <| (lk_past (by decide +kernel)).trans <| (lk_past (by decide +kernel)).trans <| (lk_past (by decide +kernel)).trans <| (lk_past (by decide +kernel)).trans <| (lk_past (by decide +kernel)).trans <| (lk_past (by decide +kernel)).trans <| (lk_past (by decide +kernel)).trans <| (lk_past (by decide +kernel)).trans <| rfl
theorem no_Ru_rows (rl : List Addr) : (ruF rl).lookup ("rows" : Str) = none := (lk_past (by decide +kernel)).trans <| (lk_past (by decide +kernel)).trans <| (lk_past (by decide +kernel)).trans <| (lk_past (by decide +kernel)).trans <| (lk_past (by decide +kernel)).trans <| (lk_past (by decide +kernel)).trans <| (lk_past (by decide +kernel)).trans <| (lk_past (by decide +kernel)).trans <| (lk_past (by decide +kernel)).trans <| rfl
theorem no_Ru_owed (rl : List Addr) : (ruF rl).lookup ("owed" : Str) = none := (lk_past (by decide +kernel)).trans <| (lk_past (by decide +kernel)).trans <| (lk_past (by decide +kernel)).trans <| (lk_past (by decide +kernel)).trans <| (lk_past (by decide +kernel)).trans <| (lk_past (by decide +kernel)).trans <| (lk_past (by decide +kernel)).trans <| (lk_past (by decide +kernel)).trans <| (lk_past (by decide +kernel)).trans <| rfl
theorem no_Ru_percent (rl : List Addr) : (ruF rl).lookup ("percent" : Str) = none := (lk_past (by decide +kernel)).trans <| (lk_past (by decide +kernel)).trans <| (lk_past (by decide +kernel)).trans <| (lk_past (by decide +kernel)).trans <| (lk_past (by decide +kernel)).trans <| (lk_past (by decide +kernel)).trans <| (lk_past (by decide +kernel)).trans <| (lk_past (by decide +kernel)).trans <| (lk_past (by decide +kernel)).trans <| rfl
theorem no_Ru_given_back (rl : List Addr) : (ruF rl).lookup ("given_back" : Str) = none := (lk_past (by decide +kernel)).trans <| (lk_past (by decide +kernel)).trans <| (lk_past (by decide +kernel)).trans <| (lk_past (by decide +kernel)).trans <| (lk_past (by decide +kernel)).trans <| (lk_past (by decide +kernel)).trans <| (lk_past (by decide +kernel)).trans <| (lk_past (by decide +kernel)).trans <| (lk_past (by decide +kernel)).trans <| rfl
theorem no_Ru_shown (rl : List Addr) : (ruF rl).lookup ("shown" : Str) = none := (lk_past (by decide +kernel)).trans <| (lk_past (by decide +kernel)).trans <| (lk_past (by decide +kernel)).trans <| (lk_past (by decide +kernel)).trans <| (lk_past (by decide +kernel)).trans <| (lk_past (by decide +kernel)).trans <| (lk_past (by decide +kernel)).trans <| (lk_past (by decide +kernel)).trans <| (lk_past (by decide +kernel)).trans <| rfl
theorem put_Ru_places {v0 v1 v2 v3 v4 v5 v6 v7 v8 y : V} : putF "places" y ([("places", v0), ("form", v1), ("cap", v2), ("judges", v3), ("fee", v4), ("fine", v5), ("answer", v6), ("begin", v7), ("back", v8)] : List (Str × V)) = ([("places", y), ("form", v1), ("cap", v2), ("judges", v3), ("fee", v4), ("fine", v5), ("answer", v6), ("begin", v7), ("back", v8)] : List (Str × V)) := put_here
theorem new_Ru_places {y : V} : putF "places" y ([] : List (Str × V)) = ([("places", y)] : List (Str × V)) := rfl
theorem put_Ru_form {v0 v1 v2 v3 v4 v5 v6 v7 v8 y : V} : putF "form" y ([("places", v0), ("form", v1), ("cap", v2), ("judges", v3), ("fee", v4), ("fine", v5), ("answer", v6), ("begin", v7), ("back", v8)] : List (Str × V)) = ([("places", v0), ("form", y), ("cap", v2), ("judges", v3), ("fee", v4), ("fine", v5), ("answer", v6), ("begin", v7), ("back", v8)] : List (Str × V)) := (put_past (by decide +kernel)).trans (congrArg _ (put_here))
theorem new_Ru_form {v0 y : V} : putF "form" y ([("places", v0)] : List (Str × V)) = ([("places", v0), ("form", y)] : List (Str × V)) := (put_past (by decide +kernel)).trans (congrArg _ (rfl))
theorem put_Ru_cap {v0 v1 v2 v3 v4 v5 v6 v7 v8 y : V} : putF "cap" y ([("places", v0), ("form", v1), ("cap", v2), ("judges", v3), ("fee", v4), ("fine", v5), ("answer", v6), ("begin", v7), ("back", v8)] : List (Str × V)) = ([("places", v0), ("form", v1), ("cap", y), ("judges", v3), ("fee", v4), ("fine", v5), ("answer", v6), ("begin", v7), ("back", v8)] : List (Str × V)) := (put_past (by decide +kernel)).trans (congrArg _ ((put_past (by decide +kernel)).trans (congrArg _ (put_here))))
theorem new_Ru_cap {v0 v1 y : V} : putF "cap" y ([("places", v0), ("form", v1)] : List (Str × V)) = ([("places", v0), ("form", v1), ("cap", y)] : List (Str × V)) := (put_past (by decide +kernel)).trans (congrArg _ ((put_past (by decide +kernel)).trans (congrArg _ (rfl))))
theorem put_Ru_judges {v0 v1 v2 v3 v4 v5 v6 v7 v8 y : V} : putF "judges" y ([("places", v0), ("form", v1), ("cap", v2), ("judges", v3), ("fee", v4), ("fine", v5), ("answer", v6), ("begin", v7), ("back", v8)] : List (Str × V)) = ([("places", v0), ("form", v1), ("cap", v2), ("judges", y), ("fee", v4), ("fine", v5), ("answer", v6), ("begin", v7), ("back", v8)] : List (Str × V)) := (put_past (by decide +kernel)).trans (congrArg _ ((put_past (by decide +kernel)).trans (congrArg _ ((put_past (by decide +kernel)).trans (congrArg _ (put_here))))))
theorem new_Ru_judges {v0 v1 v2 y : V} : putF "judges" y ([("places", v0), ("form", v1), ("cap", v2)] : List (Str × V)) = ([("places", v0), ("form", v1), ("cap", v2), ("judges", y)] : List (Str × V)) := (put_past (by decide +kernel)).trans (congrArg _ ((put_past (by decide +kernel)).trans (congrArg _ ((put_past (by decide +kernel)).trans (congrArg _ (rfl))))))
theorem put_Ru_fee {v0 v1 v2 v3 v4 v5 v6 v7 v8 y : V} : putF "fee" y ([("places", v0), ("form", v1), ("cap", v2), ("judges", v3), ("fee", v4), ("fine", v5), ("answer", v6), ("begin", v7), ("back", v8)] : List (Str × V)) = ([("places", v0), ("form", v1), ("cap", v2), ("judges", v3), ("fee", y), ("fine", v5), ("answer", v6), ("begin", v7), ("back", v8)] : List (Str × V)) := (put_past (by decide +kernel)).trans (congrArg _ ((put_past (by decide +kernel)).trans (congrArg _ ((put_past (by decide +kernel)).trans (congrArg _ ((put_past (by decide +kernel)).trans (congrArg _ (put_here))))))))
theorem new_Ru_fee {v0 v1 v2 v3 y : V} : putF "fee" y ([("places", v0), ("form", v1), ("cap", v2), ("judges", v3)] : List (Str × V)) = ([("places", v0), ("form", v1), ("cap", v2), ("judges", v3), ("fee", y)] : List (Str × V)) := (put_past (by decide +kernel)).trans (congrArg _ ((put_past (by decide +kernel)).trans (congrArg _ ((put_past (by decide +kernel)).trans (congrArg _ ((put_past (by decide +kernel)).trans (congrArg _ (rfl))))))))
theorem put_Ru_fine {v0 v1 v2 v3 v4 v5 v6 v7 v8 y : V} : putF "fine" y ([("places", v0), ("form", v1), ("cap", v2), ("judges", v3), ("fee", v4), ("fine", v5), ("answer", v6), ("begin", v7), ("back", v8)] : List (Str × V)) = ([("places", v0), ("form", v1), ("cap", v2), ("judges", v3), ("fee", v4), ("fine", y), ("answer", v6), ("begin", v7), ("back", v8)] : List (Str × V)) := (put_past (by decide +kernel)).trans (congrArg _ ((put_past (by decide +kernel)).trans (congrArg _ ((put_past (by decide +kernel)).trans (congrArg _ ((put_past (by decide +kernel)).trans (congrArg _ ((put_past (by decide +kernel)).trans (congrArg _ (put_here))))))))))
theorem new_Ru_fine {v0 v1 v2 v3 v4 y : V} : putF "fine" y ([("places", v0), ("form", v1), ("cap", v2), ("judges", v3), ("fee", v4)] : List (Str × V)) = ([("places", v0), ("form", v1), ("cap", v2), ("judges", v3), ("fee", v4), ("fine", y)] : List (Str × V)) := (put_past (by decide +kernel)).trans (congrArg _ ((put_past (by decide +kernel)).trans (congrArg _ ((put_past (by decide +kernel)).trans (congrArg _ ((put_past (by decide +kernel)).trans (congrArg _ ((put_past (by decide +kernel)).trans (congrArg _ (rfl))))))))))
theorem put_Ru_answer {v0 v1 v2 v3 v4 v5 v6 v7 v8 y : V} : putF "answer" y ([("places", v0), ("form", v1), ("cap", v2), ("judges", v3), ("fee", v4), ("fine", v5), ("answer", v6), ("begin", v7), ("back", v8)] : List (Str × V)) = ([("places", v0), ("form", v1), ("cap", v2), ("judges", v3), ("fee", v4), ("fine", v5), ("answer", y), ("begin", v7), ("back", v8)] : List (Str × V)) := (put_past (by decide +kernel)).trans (congrArg _ ((put_past (by decide +kernel)).trans (congrArg _ ((put_past (by decide +kernel)).trans (congrArg _ ((put_past (by decide +kernel)).trans (congrArg _ ((put_past (by decide +kernel)).trans (congrArg _ ((put_past (by decide +kernel)).trans (congrArg _ (put_here))))))))))))
theorem new_Ru_answer {v0 v1 v2 v3 v4 v5 y : V} : putF "answer" y ([("places", v0), ("form", v1), ("cap", v2), ("judges", v3), ("fee", v4), ("fine", v5)] : List (Str × V)) = ([("places", v0), ("form", v1), ("cap", v2), ("judges", v3), ("fee", v4), ("fine", v5), ("answer", y)] : List (Str × V)) := (put_past (by decide +kernel)).trans (congrArg _ ((put_past (by decide +kernel)).trans (congrArg _ ((put_past (by decide +kernel)).trans (congrArg _ ((put_past (by decide +kernel)).trans (congrArg _ ((put_past (by decide +kernel)).trans (congrArg _ ((put_past (by decide +kernel)).trans (congrArg _ (rfl))))))))))))
theorem put_Ru_begin {v0 v1 v2 v3 v4 v5 v6 v7 v8 y : V} : putF "begin" y ([("places", v0), ("form", v1), ("cap", v2), ("judges", v3), ("fee", v4), ("fine", v5), ("answer", v6), ("begin", v7), ("back", v8)] : List (Str × V)) = ([("places", v0), ("form", v1), ("cap", v2), ("judges", v3), ("fee", v4), ("fine", v5), ("answer", v6), ("begin", y), ("back", v8)] : List (Str × V)) := (put_past (by decide +kernel)).trans (congrArg _ ((put_past (by decide +kernel)).trans (congrArg _ ((put_past (by decide +kernel)).trans (congrArg _ ((put_past (by decide +kernel)).trans (congrArg _ ((put_past (by decide +kernel)).trans (congrArg _ ((put_past (by decide +kernel)).trans (congrArg _ ((put_past (by decide +kernel)).trans (congrArg _ (put_here))))))))))))))
theorem new_Ru_begin {v0 v1 v2 v3 v4 v5 v6 y : V} : putF "begin" y ([("places", v0), ("form", v1), ("cap", v2), ("judges", v3), ("fee", v4), ("fine", v5), ("answer", v6)] : List (Str × V)) = ([("places", v0), ("form", v1), ("cap", v2), ("judges", v3), ("fee", v4), ("fine", v5), ("answer", v6), ("begin", y)] : List (Str × V)) := (put_past (by decide +kernel)).trans (congrArg _ ((put_past (by decide +kernel)).trans (congrArg _ ((put_past (by decide +kernel)).trans (congrArg _ ((put_past (by decide +kernel)).trans (congrArg _ ((put_past (by decide +kernel)).trans (congrArg _ ((put_past (by decide +kernel)).trans (congrArg _ ((put_past (by decide +kernel)).trans (congrArg _ (rfl))))))))))))))
theorem put_Ru_back {v0 v1 v2 v3 v4 v5 v6 v7 v8 y : V} : putF "back" y ([("places", v0), ("form", v1), ("cap", v2), ("judges", v3), ("fee", v4), ("fine", v5), ("answer", v6), ("begin", v7), ("back", v8)] : List (Str × V)) = ([("places", v0), ("form", v1), ("cap", v2), ("judges", v3), ("fee", v4), ("fine", v5), ("answer", v6), ("begin", v7), ("back", y)] : List (Str × V)) := (put_past (by decide +kernel)).trans (congrArg _ ((put_past (by decide +kernel)).trans (congrArg _ ((put_past (by decide +kernel)).trans (congrArg _ ((put_past (by decide +kernel)).trans (congrArg _ ((put_past (by decide +kernel)).trans (congrArg _ ((put_past (by decide +kernel)).trans (congrArg _ ((put_past (by decide +kernel)).trans (congrArg _ ((put_past (by decide +kernel)).trans (congrArg _ (put_here))))))))))))))))
theorem new_Ru_back {v0 v1 v2 v3 v4 v5 v6 v7 y : V} : putF "back" y ([("places", v0), ("form", v1), ("cap", v2), ("judges", v3), ("fee", v4), ("fine", v5), ("answer", v6), ("begin", v7)] : List (Str × V)) = ([("places", v0), ("form", v1), ("cap", v2), ("judges", v3), ("fee", v4), ("fine", v5), ("answer", v6), ("begin", v7), ("back", y)] : List (Str × V)) := (put_past (by decide +kernel)).trans (congrArg _ ((put_past (by decide +kernel)).trans (congrArg _ ((put_past (by decide +kernel)).trans (congrArg _ ((put_past (by decide +kernel)).trans (congrArg _ ((put_past (by decide +kernel)).trans (congrArg _ ((put_past (by decide +kernel)).trans (congrArg _ ((put_past (by decide +kernel)).trans (congrArg _ ((put_past (by decide +kernel)).trans (congrArg _ (rfl))))))))))))))))
theorem lk_St_rules (L : Lay) (m : M) : (stF L m).lookup ("rules" : Str) = some (.ref L.ru) := lk_here
theorem lk_St_schools (L : Lay) (m : M) : (stF L m).lookup ("schools" : Str) = some (.ref L.sl) := (lk_past (by decide +kernel)).trans <| lk_here
theorem lk_St_offers (L : Lay) (m : M) : (stF L m).lookup ("offers" : Str) = some (.ref L.ol) := (lk_past (by decide +kernel)).trans <| (lk_past (by decide +kernel)).trans <| lk_here
theorem lk_St_made (L : Lay) (m : M) : (stF L m).lookup ("made" : Str) = some (.int m.made) := (lk_past (by decide +kernel)).trans <| (lk_past (by decide +kernel)).trans <| (lk_past (by decide +kernel)).trans <| lk_here
theorem lk_St_day (L : Lay) (m : M) : (stF L m).lookup ("day" : Str) = some (.int m.day) := (lk_past (by decide +kernel)).trans <| (lk_past (by decide +kernel)).trans <| (lk_past (by decide +kernel)).trans <| (lk_past (by decide +kernel)).trans <| lk_here
theorem lk_St_is_closed (L : Lay) (m : M) : (stF L m).lookup ("is_closed" : Str) = some (.bl m.closed) := (lk_past (by decide +kernel)).trans <| (lk_past (by decide +kernel)).trans <| (lk_past (by decide +kernel)).trans <| (lk_past (by decide +kernel)).trans <| (lk_past (by decide +kernel)).trans <| lk_here
theorem lk_St_entries (L : Lay) (m : M) : (stF L m).lookup ("entries" : Str) = some (.int m.entries) := (lk_past (by decide +kernel)).trans <| (lk_past (by decide +kernel)).trans <| (lk_past (by decide +kernel)).trans <| (lk_past (by decide +kernel)).trans <| (lk_past (by decide +kernel)).trans <| (lk_past (by decide +kernel)).trans <| lk_here
theorem no_St_school_at (L : Lay) (m : M) : (stF L m).lookup ("school_at" : Str) = none := (lk_past (by decide +kernel)).trans <| (lk_past (by decide +kernel)).trans <| (lk_past (by decide +kernel)).trans <| (lk_past (by decide +kernel)).trans <| (lk_past (by decide +kernel)).trans <| (lk_past (by decide +kernel)).trans <| (lk_past (by decide +kernel)).trans <| rfl
theorem no_St_offer_at (L : Lay) (m : M) : (stF L m).lookup ("offer_at" : Str) = none := (lk_past (by decide +kernel)).trans <| (lk_past (by decide +kernel)).trans <| (lk_past (by decide +kernel)).trans <| (lk_past (by decide +kernel)).trans <| (lk_past (by decide +kernel)).trans <| (lk_past (by decide +kernel)).trans <| (lk_past (by decide +kernel)).trans <| rfl
theorem no_St_standing (L : Lay) (m : M) : (stF L m).lookup ("standing" : Str) = none := (lk_past (by decide +kernel)).trans <| (lk_past (by decide +kernel)).trans <| (lk_past (by decide +kernel)).trans <| (lk_past (by decide +kernel)).trans <| (lk_past (by decide +kernel)).trans <| (lk_past (by decide +kernel)).trans <| (lk_past (by decide +kernel)).trans <| rfl
theorem no_St_load (L : Lay) (m : M) : (stF L m).lookup ("load" : Str) = none := (lk_past (by decide +kernel)).trans <| (lk_past (by decide +kernel)).trans <| (lk_past (by decide +kernel)).trans <| (lk_past (by decide +kernel)).trans <| (lk_past (by decide +kernel)).trans <| (lk_past (by decide +kernel)).trans <| (lk_past (by decide +kernel)).trans <| rfl
theorem no_St_loads (L : Lay) (m : M) : (stF L m).lookup ("loads" : Str) = none := (lk_past (by decide +kernel)).trans <| (lk_past (by decide +kernel)).trans <| (lk_past (by decide +kernel)).trans <| (lk_past (by decide +kernel)).trans <| (lk_past (by decide +kernel)).trans <| (lk_past (by decide +kernel)).trans <| (lk_past (by decide +kernel)).trans <| rfl
theorem no_St_taken (L : Lay) (m : M) : (stF L m).lookup ("taken" : Str) = none := (lk_past (by decide +kernel)).trans <| (lk_past (by decide +kernel)).trans <| (lk_past (by decide +kernel)).trans <| (lk_past (by decide +kernel)).trans <| (lk_past (by decide +kernel)).trans <| (lk_past (by decide +kernel)).trans <| (lk_past (by decide +kernel)).trans <| rfl
theorem no_St_waits (L : Lay) (m : M) : (stF L m).lookup ("waits" : Str) = none := (lk_past (by decide +kernel)).trans <| (lk_past (by decide +kernel)).trans <| (lk_past (by decide +kernel)).trans <| (lk_past (by decide +kernel)).trans <| (lk_past (by decide +kernel)).trans <| (lk_past (by decide +kernel)).trans <| (lk_past (by decide +kernel)).trans <| rfl
theorem no_St_following (L : Lay) (m : M) : (stF L m).lookup ("following" : Str) = none := (lk_past (by decide +kernel)).trans <| (lk_past (by decide +kernel)).trans <| (lk_past (by decide +kernel)).trans <| (lk_past (by decide +kernel)).trans <| (lk_past (by decide +kernel)).trans <| (lk_past (by decide +kernel)).trans <| (lk_past (by decide +kernel)).trans <| rfl
theorem no_St_queue (L : Lay) (m : M) : (stF L m).lookup ("queue" : Str) = none := (lk_past (by decide +kernel)).trans <| (lk_past (by decide +kernel)).trans <| (lk_past (by decide +kernel)).trans <| (lk_past (by decide +kernel)).trans <| (lk_past (by decide +kernel)).trans <| (lk_past (by decide +kernel)).trans <| (lk_past (by decide +kernel)).trans <| rfl
theorem no_St_make_offers (L : Lay) (m : M) : (stF L m).lookup ("make_offers" : Str) = none := (lk_past (by decide +kernel)).trans <| (lk_past (by decide +kernel)).trans <| (lk_past (by decide +kernel)).trans <| (lk_past (by decide +kernel)).trans <| (lk_past (by decide +kernel)).trans <| (lk_past (by decide +kernel)).trans <| (lk_past (by decide +kernel)).trans <| rfl
theorem no_St_pass_night (L : Lay) (m : M) : (stF L m).lookup ("pass_night" : Str) = none := (lk_past (by decide +kernel)).trans <| (lk_past (by decide +kernel)).trans <| (lk_past (by decide +kernel)).trans <| (lk_past (by decide +kernel)).trans <| (lk_past (by decide +kernel)).trans <| (lk_past (by decide +kernel)).trans <| (lk_past (by decide +kernel)).trans <| rfl
theorem no_St_take_away (L : Lay) (m : M) : (stF L m).lookup ("take_away" : Str) = none := (lk_past (by decide +kernel)).trans <| (lk_past (by decide +kernel)).trans <| (lk_past (by decide +kernel)).trans <| (lk_past (by decide +kernel)).trans <| (lk_past (by decide +kernel)).trans <| (lk_past (by decide +kernel)).trans <| (lk_past (by decide +kernel)).trans <| rfl
theorem no_St_missing (L : Lay) (m : M) : (stF L m).lookup ("missing" : Str) = none := (lk_past (by decide +kernel)).trans <| (lk_past (by decide +kernel)).trans <| (lk_past (by decide +kernel)).trans <| (lk_past (by decide +kernel)).trans <| (lk_past (by decide +kernel)).trans <| (lk_past (by decide +kernel)).trans <| (lk_past (by decide +kernel)).trans <| rfl
theorem no_St_close (L : Lay) (m : M) : (stF L m).lookup ("close" : Str) = none := (lk_past (by decide +kernel)).trans <| (lk_past (by decide +kernel)).trans <| (lk_past (by decide +kernel)).trans <| (lk_past (by decide +kernel)).trans <| (lk_past (by decide +kernel)).trans <| (lk_past (by decide +kernel)).trans <| (lk_past (by decide +kernel)).trans <| rfl
theorem put_St_rules {v0 v1 v2 v3 v4 v5 v6 y : V} : putF "rules" y ([("rules", v0), ("schools", v1), ("offers", v2), ("made", v3), ("day", v4), ("is_closed", v5), ("entries", v6)] : List (Str × V)) = ([("rules", y), ("schools", v1), ("offers", v2), ("made", v3), ("day", v4), ("is_closed", v5), ("entries", v6)] : List (Str × V)) := put_here
theorem new_St_rules {y : V} : putF "rules" y ([] : List (Str × V)) = ([("rules", y)] : List (Str × V)) := rfl
theorem put_St_schools {v0 v1 v2 v3 v4 v5 v6 y : V} : putF "schools" y ([("rules", v0), ("schools", v1), ("offers", v2), ("made", v3), ("day", v4), ("is_closed", v5), ("entries", v6)] : List (Str × V)) = ([("rules", v0), ("schools", y), ("offers", v2), ("made", v3), ("day", v4), ("is_closed", v5), ("entries", v6)] : List (Str × V)) := (put_past (by decide +kernel)).trans (congrArg _ (put_here))
theorem new_St_schools {v0 y : V} : putF "schools" y ([("rules", v0)] : List (Str × V)) = ([("rules", v0), ("schools", y)] : List (Str × V)) := (put_past (by decide +kernel)).trans (congrArg _ (rfl))
theorem put_St_offers {v0 v1 v2 v3 v4 v5 v6 y : V} : putF "offers" y ([("rules", v0), ("schools", v1), ("offers", v2), ("made", v3), ("day", v4), ("is_closed", v5), ("entries", v6)] : List (Str × V)) = ([("rules", v0), ("schools", v1), ("offers", y), ("made", v3), ("day", v4), ("is_closed", v5), ("entries", v6)] : List (Str × V)) := (put_past (by decide +kernel)).trans (congrArg _ ((put_past (by decide +kernel)).trans (congrArg _ (put_here))))
theorem new_St_offers {v0 v1 y : V} : putF "offers" y ([("rules", v0), ("schools", v1)] : List (Str × V)) = ([("rules", v0), ("schools", v1), ("offers", y)] : List (Str × V)) := (put_past (by decide +kernel)).trans (congrArg _ ((put_past (by decide +kernel)).trans (congrArg _ (rfl))))
theorem put_St_made {v0 v1 v2 v3 v4 v5 v6 y : V} : putF "made" y ([("rules", v0), ("schools", v1), ("offers", v2), ("made", v3), ("day", v4), ("is_closed", v5), ("entries", v6)] : List (Str × V)) = ([("rules", v0), ("schools", v1), ("offers", v2), ("made", y), ("day", v4), ("is_closed", v5), ("entries", v6)] : List (Str × V)) := (put_past (by decide +kernel)).trans (congrArg _ ((put_past (by decide +kernel)).trans (congrArg _ ((put_past (by decide +kernel)).trans (congrArg _ (put_here))))))
theorem new_St_made {v0 v1 v2 y : V} : putF "made" y ([("rules", v0), ("schools", v1), ("offers", v2)] : List (Str × V)) = ([("rules", v0), ("schools", v1), ("offers", v2), ("made", y)] : List (Str × V)) := (put_past (by decide +kernel)).trans (congrArg _ ((put_past (by decide +kernel)).trans (congrArg _ ((put_past (by decide +kernel)).trans (congrArg _ (rfl))))))
theorem put_St_day {v0 v1 v2 v3 v4 v5 v6 y : V} : putF "day" y ([("rules", v0), ("schools", v1), ("offers", v2), ("made", v3), ("day", v4), ("is_closed", v5), ("entries", v6)] : List (Str × V)) = ([("rules", v0), ("schools", v1), ("offers", v2), ("made", v3), ("day", y), ("is_closed", v5), ("entries", v6)] : List (Str × V)) := (put_past (by decide +kernel)).trans (congrArg _ ((put_past (by decide +kernel)).trans (congrArg _ ((put_past (by decide +kernel)).trans (congrArg _ ((put_past (by decide +kernel)).trans (congrArg _ (put_here))))))))
theorem new_St_day {v0 v1 v2 v3 y : V} : putF "day" y ([("rules", v0), ("schools", v1), ("offers", v2), ("made", v3)] : List (Str × V)) = ([("rules", v0), ("schools", v1), ("offers", v2), ("made", v3), ("day", y)] : List (Str × V)) := (put_past (by decide +kernel)).trans (congrArg _ ((put_past (by decide +kernel)).trans (congrArg _ ((put_past (by decide +kernel)).trans (congrArg _ ((put_past (by decide +kernel)).trans (congrArg _ (rfl))))))))
theorem put_St_is_closed {v0 v1 v2 v3 v4 v5 v6 y : V} : putF "is_closed" y ([("rules", v0), ("schools", v1), ("offers", v2), ("made", v3), ("day", v4), ("is_closed", v5), ("entries", v6)] : List (Str × V)) = ([("rules", v0), ("schools", v1), ("offers", v2), ("made", v3), ("day", v4), ("is_closed", y), ("entries", v6)] : List (Str × V)) := (put_past (by decide +kernel)).trans (congrArg _ ((put_past (by decide +kernel)).trans (congrArg _ ((put_past (by decide +kernel)).trans (congrArg _ ((put_past (by decide +kernel)).trans (congrArg _ ((put_past (by decide +kernel)).trans (congrArg _ (put_here))))))))))
theorem new_St_is_closed {v0 v1 v2 v3 v4 y : V} : putF "is_closed" y ([("rules", v0), ("schools", v1), ("offers", v2), ("made", v3), ("day", v4)] : List (Str × V)) = ([("rules", v0), ("schools", v1), ("offers", v2), ("made", v3), ("day", v4), ("is_closed", y)] : List (Str × V)) := (put_past (by decide +kernel)).trans (congrArg _ ((put_past (by decide +kernel)).trans (congrArg _ ((put_past (by decide +kernel)).trans (congrArg _ ((put_past (by decide +kernel)).trans (congrArg _ ((put_past (by decide +kernel)).trans (congrArg _ (rfl))))))))))
theorem put_St_entries {v0 v1 v2 v3 v4 v5 v6 y : V} : putF "entries" y ([("rules", v0), ("schools", v1), ("offers", v2), ("made", v3), ("day", v4), ("is_closed", v5), ("entries", v6)] : List (Str × V)) = ([("rules", v0), ("schools", v1), ("offers", v2), ("made", v3), ("day", v4), ("is_closed", v5), ("entries", y)] : List (Str × V)) := (put_past (by decide +kernel)).trans (congrArg _ ((put_past (by decide +kernel)).trans (congrArg _ ((put_past (by decide +kernel)).trans (congrArg _ ((put_past (by decide +kernel)).trans (congrArg _ ((put_past (by decide +kernel)).trans (congrArg _ ((put_past (by decide +kernel)).trans (congrArg _ (put_here))))))))))))
theorem new_St_entries {v0 v1 v2 v3 v4 v5 y : V} : putF "entries" y ([("rules", v0), ("schools", v1), ("offers", v2), ("made", v3), ("day", v4), ("is_closed", v5)] : List (Str × V)) = ([("rules", v0), ("schools", v1), ("offers", v2), ("made", v3), ("day", v4), ("is_closed", v5), ("entries", y)] : List (Str × V)) := (put_past (by decide +kernel)).trans (congrArg _ ((put_past (by decide +kernel)).trans (congrArg _ ((put_past (by decide +kernel)).trans (congrArg _ ((put_past (by decide +kernel)).trans (congrArg _ ((put_past (by decide +kernel)).trans (congrArg _ ((put_past (by decide +kernel)).trans (congrArg _ (rfl))))))))))))
theorem lk_De_state (st : Addr) : (deF st).lookup ("state" : Str) = some (.ref st) := lk_here
theorem no_De_look_up (st : Addr) : (deF st).lookup ("look_up" : Str) = none := (lk_past (by decide +kernel)).trans <| rfl
theorem no_De_offer (st : Addr) : (deF st).lookup ("offer" : Str) = none := (lk_past (by decide +kernel)).trans <| rfl
theorem no_De_look_closed (st : Addr) : (deF st).lookup ("look_closed" : Str) = none := (lk_past (by decide +kernel)).trans <| rfl
theorem no_De_look_entries (st : Addr) : (deF st).lookup ("look_entries" : Str) = none := (lk_past (by decide +kernel)).trans <| rfl
theorem no_De_clear (st : Addr) : (deF st).lookup ("clear" : Str) = none := (lk_past (by decide +kernel)).trans <| rfl
theorem no_De_put_rules (st : Addr) : (deF st).lookup ("put_rules" : Str) = none := (lk_past (by decide +kernel)).trans <| rfl
theorem no_De_enter (st : Addr) : (deF st).lookup ("enter" : Str) = none := (lk_past (by decide +kernel)).trans <| rfl
theorem no_De_want (st : Addr) : (deF st).lookup ("want" : Str) = none := (lk_past (by decide +kernel)).trans <| rfl
theorem no_De_bring (st : Addr) : (deF st).lookup ("bring" : Str) = none := (lk_past (by decide +kernel)).trans <| rfl
theorem no_De_accept (st : Addr) : (deF st).lookup ("accept" : Str) = none := (lk_past (by decide +kernel)).trans <| rfl
theorem no_De_decline (st : Addr) : (deF st).lookup ("decline" : Str) = none := (lk_past (by decide +kernel)).trans <| rfl
theorem no_De_drop (st : Addr) : (deF st).lookup ("drop" : Str) = none := (lk_past (by decide +kernel)).trans <| rfl
theorem no_De_transfer (st : Addr) : (deF st).lookup ("transfer" : Str) = none := (lk_past (by decide +kernel)).trans <| rfl
theorem no_De_pay (st : Addr) : (deF st).lookup ("pay" : Str) = none := (lk_past (by decide +kernel)).trans <| rfl
theorem no_De_payout (st : Addr) : (deF st).lookup ("payout" : Str) = none := (lk_past (by decide +kernel)).trans <| rfl
theorem no_De_night (st : Addr) : (deF st).lookup ("night" : Str) = none := (lk_past (by decide +kernel)).trans <| rfl
theorem no_De_close (st : Addr) : (deF st).lookup ("close" : Str) = none := (lk_past (by decide +kernel)).trans <| rfl
theorem no_De_school_told (st : Addr) : (deF st).lookup ("school_told" : Str) = none := (lk_past (by decide +kernel)).trans <| rfl
theorem no_De_offers_told (st : Addr) : (deF st).lookup ("offers_told" : Str) = none := (lk_past (by decide +kernel)).trans <| rfl
theorem no_De_money (st : Addr) : (deF st).lookup ("money" : Str) = none := (lk_past (by decide +kernel)).trans <| rfl
theorem no_De_counts (st : Addr) : (deF st).lookup ("counts" : Str) = none := (lk_past (by decide +kernel)).trans <| rfl
theorem put_De_state {v0 y : V} : putF "state" y ([("state", v0)] : List (Str × V)) = ([("state", y)] : List (Str × V)) := put_here
theorem new_De_state {y : V} : putF "state" y ([] : List (Str × V)) = ([("state", y)] : List (Str × V)) := rfl
theorem lk_Cr_calls (c : Addr) (i : Int) : (crF c i).lookup ("calls" : Str) = some (.ref c) := lk_here
theorem lk_Cr_at (c : Addr) (i : Int) : (crF c i).lookup ("at" : Str) = some (.int i) := (lk_past (by decide +kernel)).trans <| lk_here
theorem no_Cr_is_done (c : Addr) (i : Int) : (crF c i).lookup ("is_done" : Str) = none := (lk_past (by decide +kernel)).trans <| (lk_past (by decide +kernel)).trans <| rfl
theorem no_Cr_next_some (c : Addr) (i : Int) : (crF c i).lookup ("next_some" : Str) = none := (lk_past (by decide +kernel)).trans <| (lk_past (by decide +kernel)).trans <| rfl
theorem put_Cr_calls {v0 v1 y : V} : putF "calls" y ([("calls", v0), ("at", v1)] : List (Str × V)) = ([("calls", y), ("at", v1)] : List (Str × V)) := put_here
theorem new_Cr_calls {y : V} : putF "calls" y ([] : List (Str × V)) = ([("calls", y)] : List (Str × V)) := rfl
theorem put_Cr_at {v0 v1 y : V} : putF "at" y ([("calls", v0), ("at", v1)] : List (Str × V)) = ([("calls", v0), ("at", y)] : List (Str × V)) := (put_past (by decide +kernel)).trans (congrArg _ (put_here))
theorem new_Cr_at {v0 y : V} : putF "at" y ([("calls", v0)] : List (Str × V)) = ([("calls", v0), ("at", y)] : List (Str × V)) := (put_past (by decide +kernel)).trans (congrArg _ (rfl))
theorem pt_Sc_wanted (s : MS) (x : Int) : putF "wanted" (.int x) (msF s) = msF { s with wanted := x } := put_Sc_wanted
theorem pt_Sc_has (s : MS) (x : Int) : putF "has" (.int x) (msF s) = msF { s with has := x } := put_Sc_has
theorem pt_Sc_judges (s : MS) (x : Int) : putF "judges" (.int x) (msF s) = msF { s with judges := x } := put_Sc_judges
theorem pt_Sc_paid (s : MS) (x : Int) : putF "paid" (.int x) (msF s) = msF { s with paid := x } := put_Sc_paid
theorem pt_Sc_fees (s : MS) (x : Int) : putF "fees" (.int x) (msF s) = msF { s with fees := x } := put_Sc_fees
theorem pt_Sc_given (s : MS) (x : Int) : putF "given" (.int x) (msF s) = msF { s with given := x } := put_Sc_given
theorem pt_Sc_fines (s : MS) (x : Int) : putF "fines" (.int x) (msF s) = msF { s with fines := x } := put_Sc_fines
theorem pt_Sc_out (s : MS) (x : Int) : putF "out" (.int x) (msF s) = msF { s with out := x } := put_Sc_out
theorem pt_St_made (L : Lay) (m : M) (x : Int) : putF "made" (.int x) (stF L m) = stF L { m with made := x } := put_St_made
theorem pt_St_day (L : Lay) (m : M) (x : Int) : putF "day" (.int x) (stF L m) = stF L { m with day := x } := put_St_day
theorem pt_St_entries (L : Lay) (m : M) (x : Int) : putF "entries" (.int x) (stF L m) = stF L { m with entries := x } := put_St_entries
theorem pt_St_is_closed (L : Lay) (m : M) (x : Bool) : putF "is_closed" (.bl x) (stF L m) = stF L { m with closed := x } := put_St_is_closed
theorem pt_St_offers (L : Lay) (m : M) (x : Addr) : putF "offers" (.ref x) (stF L m) = stF { L with ol := x } m := put_St_offers
theorem pt_St_rules (L : Lay) (m : M) (x : Addr) : putF "rules" (.ref x) (stF L m) = stF { L with ru := x } m := put_St_rules
theorem pt_De_state (a x : Addr) : putF "state" (.ref x) (deF a) = deF x := put_De_state
theorem pt_Cr_at (a : Addr) (i x : Int) : putF "at" (.int x) (crF a i) = crF a x := put_Cr_at
def At (H : Hp) (a C : Addr) (fs : List (Str × V)) : Prop := ∃ dx, H a = some (.ins C dx fs)
def iV (l : List Int) : List V := l.map V.int
def bys (l : List Nat) : List V := l.map fun (n : Nat) => V.int (n : Int)
def refs (l : List Addr) : List V := l.map V.ref
theorem At.ex {H H' : Hp} {a C : Addr} {fs : List (Str × V)} (h : At H a C fs) (e : Ex H H') : At H' a C fs := let ⟨dx, q⟩ := h; ⟨dx, e a _ q⟩
theorem At.off {H : Hp} {a b C : Addr} {fs : List (Str × V)} {o : HO} (h : At H a C fs) (hb : a ≠ b) : At (upd H b o) a C fs := let ⟨dx, q⟩ := h; ⟨dx, by rw [upd_ne hb]; exact q⟩
theorem At.ne_of {H : Hp} {a b C D : Addr} {fs gs : List (Str × V)} (h : At H a C fs) (h' : At H b D gs) (d : fs ≠ gs) : a ≠ b := by
  obtain ⟨x, hx⟩ := h
  obtain ⟨y, hy⟩ := h'
  refine L2.ne_of hx hy fun e => d ?_
  injection e
theorem At.ne_lst {H : Hp} {a b C : Addr} {fs : List (Str × V)} {xs : List V} (h : At H a C fs) (h' : H b = some (.lst xs)) : a ≠ b := by
  obtain ⟨x, hx⟩ := h
  exact L2.ne_of hx h' fun e => by cases e
theorem At.ne_none {H : Hp} {a b C : Addr} {fs : List (Str × V)} (h : At H a C fs) (h' : H b = none) : a ≠ b := by
  obtain ⟨x, hx⟩ := h
  exact ne_of_none hx h'
section
variable {K : PySem.W.Frag} {mg : Str → Option Value} {A : Ads} {σ : L2.St} {H : Hp} {ta te tb tv : TE} {t : TA} {x y z v : V} {D : Ends} {tz : TS}
theorem ev_fld {a C : Addr} {fs : List (Str × V)} {f : Str} (ha : Ev ta σ H (.ref a)) (h : At H a C fs) (c : Cls K C) (n : NoAttr K C f) (l : fs.lookup f = some v) : Ev (tFld K ta f) σ H v := fun H1 e Q q =>
  ha H1 e _ fun H2 e2 => let ⟨dx, hx⟩ := h; ⟨a, C, dx, fs, v, rfl, e2 a _ (e a _ hx), c, n, l, q H2 e2⟩
theorem ev_meth {a C : Addr} {fs : List (Str × V)} {m : Str} {sp : Sp} {E : XK} {vs : List V} (ha : Ev ta σ H (.ref a)) (h : At H a C fs) (l : fs.lookup m = none) (hv : EvA t σ H vs) (hs : SpV sp (.ref a :: (vs ++ [])) H z) : Ev (tMeth C m sp [] E ta t) σ H z := fun H1 e Q q =>
  ha H1 e _ fun H2 e2 => let ⟨dx, hx⟩ := h; ⟨a, dx, fs, rfl, e2 a _ (e a _ hx), l, hv H2 (e.trans e2) _ fun H3 e3 => hs H3 ((e.trans e2).trans e3) Q (fun H4 e4 => q H4 ((e2.trans e3).trans e4)) E⟩
theorem el_meth {a C : Addr} {fs : List (Str × V)} {m : Str} {sp : Sp} {E : XK} {vs xs : List V} (ha : Ev ta σ H (.ref a)) (h : At H a C fs) (l : fs.lookup m = none) (hv : EvA t σ H vs) (hs : SpL sp (.ref a :: (vs ++ [])) H xs) : EvL (tMeth C m sp [] E ta t) σ H xs := fun H1 e Q q =>
  ha H1 e _ fun H2 e2 => let ⟨dx, hx⟩ := h; ⟨a, dx, fs, rfl, e2 a _ (e a _ hx), l, hv H2 (e.trans e2) _ fun H3 e3 => hs H3 ((e.trans e2).trans e3) Q (fun p H4 hp e4 h4 => q p H4 (fresh_back (e2.trans e3) hp) ((e2.trans e3).trans e4) h4) E⟩
/-- a method of any promise: what follows is shown behind its arguments -/
theorem q_meth {a C : Addr} {fs : List (Str × V)} {m : Str} {sp : Sp} {E : XK} {vs : List V} {Q : VK} (ha : Ev ta σ H (.ref a)) (h : At H a C fs) (l : fs.lookup m = none) (hv : EvA t σ H vs) (hs : ∀ H1, Ex H H1 → sp (.ref a :: (vs ++ [])) H1 Q E) : tMeth C m sp [] E ta t σ H Q :=
  ha H (Ex.refl H) _ fun H2 e2 => let ⟨dx, hx⟩ := h; ⟨a, dx, fs, rfl, e2 a _ hx, l, hv H2 e2 _ fun H3 e3 => hs H3 (e2.trans e3)⟩
theorem q_call {sp : Sp} {E : XK} {vs : List V} {Q : VK} (hv : EvA t σ H vs) (hs : ∀ H1, Ex H H1 → sp (vs ++ []) H1 Q E) : tCall sp [] E t σ H Q := hv H (Ex.refl H) _ hs
/-- o.f = e -/
theorem q_st {a C : Addr} {fs : List (Str × V)} {f : Str} (hv : Ev tv σ H y) (ha : Ev ta σ H (.ref a)) (h : At H a C fs) (c : Cls K C) (n : NoAttr K C f) (hl : fs.length < 1000)
    (k : ∀ H1 dx, Ex H H1 → H1 a = some (.ins C dx fs) → D.nx σ (upd H1 a (.ins C dx (putF f y fs)))) : sFld K ta tv f D σ H :=
  hv H (Ex.refl H) _ fun H1 e1 => ha H1 e1 _ fun H2 e2 => let ⟨dx, hx⟩ := h; have hx2 := (e1.trans e2) a _ hx; ⟨a, C, dx, fs, rfl, hx2, c, n, hl, k H2 dx (e1.trans e2) hx2⟩
/-- o.f += e, o.f -= e; ints -/
theorem q_aug_add {a C : Addr} {fs : List (Str × V)} {f : Str} {i j : Int} (ha : Ev ta σ H (.ref a)) (hv : Ev tv σ H (.int j)) (h : At H a C fs) (c : Cls K C) (n : NoAttr K C f) (l : fs.lookup f = some (.int i)) (hl : fs.length < 1000)
    (k : ∀ H1 dx, Ex H H1 → H1 a = some (.ins C dx fs) → D.nx σ (upd H1 a (.ins C dx (putF f (.int (i + j)) fs)))) : sFldAug K ta tv L2.rAdd f D σ H :=
  ha H (Ex.refl H) _ fun H1 e1 => let ⟨dx, hx⟩ := h; ⟨a, C, dx, fs, .int i, rfl, e1 a _ hx, c, n, l, hv H1 e1 _ fun H2 e2 => have hx2 := (e1.trans e2) a _ hx; ⟨i, j, rfl, rfl, dx, fs, hx2, hl, k H2 dx (e1.trans e2) hx2⟩⟩
theorem q_aug_sub {a C : Addr} {fs : List (Str × V)} {f : Str} {i j : Int} (ha : Ev ta σ H (.ref a)) (hv : Ev tv σ H (.int j)) (h : At H a C fs) (c : Cls K C) (n : NoAttr K C f) (l : fs.lookup f = some (.int i)) (hl : fs.length < 1000)
    (k : ∀ H1 dx, Ex H H1 → H1 a = some (.ins C dx fs) → D.nx σ (upd H1 a (.ins C dx (putF f (.int (i - j)) fs)))) : sFldAug K ta tv L2.rSub f D σ H :=
  ha H (Ex.refl H) _ fun H1 e1 => let ⟨dx, hx⟩ := h; ⟨a, C, dx, fs, .int i, rfl, e1 a _ hx, c, n, l, hv H1 e1 _ fun H2 e2 => have hx2 := (e1.trans e2) a _ hx; ⟨i, j, rfl, rfl, dx, fs, hx2, hl, k H2 dx (e1.trans e2) hx2⟩⟩
theorem ev_Sc_number (X : Tx K mg A) {a : Addr} {s : MS} (h : At H a A.Sc (msF s)) (ha : Ev ta σ H (.ref a)) : Ev (tFld K ta "number") σ H (.int s.number) := ev_fld ha h X.cl_Sc X.na_Sc_number (lk_Sc_number s)
theorem ev_Sc_wanted (X : Tx K mg A) {a : Addr} {s : MS} (h : At H a A.Sc (msF s)) (ha : Ev ta σ H (.ref a)) : Ev (tFld K ta "wanted") σ H (.int s.wanted) := ev_fld ha h X.cl_Sc X.na_Sc_wanted (lk_Sc_wanted s)
theorem ev_Sc_has (X : Tx K mg A) {a : Addr} {s : MS} (h : At H a A.Sc (msF s)) (ha : Ev ta σ H (.ref a)) : Ev (tFld K ta "has") σ H (.int s.has) := ev_fld ha h X.cl_Sc X.na_Sc_has (lk_Sc_has s)
theorem ev_Sc_judges (X : Tx K mg A) {a : Addr} {s : MS} (h : At H a A.Sc (msF s)) (ha : Ev ta σ H (.ref a)) : Ev (tFld K ta "judges") σ H (.int s.judges) := ev_fld ha h X.cl_Sc X.na_Sc_judges (lk_Sc_judges s)
theorem ev_Sc_paid (X : Tx K mg A) {a : Addr} {s : MS} (h : At H a A.Sc (msF s)) (ha : Ev ta σ H (.ref a)) : Ev (tFld K ta "paid") σ H (.int s.paid) := ev_fld ha h X.cl_Sc X.na_Sc_paid (lk_Sc_paid s)
theorem ev_Sc_fees (X : Tx K mg A) {a : Addr} {s : MS} (h : At H a A.Sc (msF s)) (ha : Ev ta σ H (.ref a)) : Ev (tFld K ta "fees") σ H (.int s.fees) := ev_fld ha h X.cl_Sc X.na_Sc_fees (lk_Sc_fees s)
theorem ev_Sc_given (X : Tx K mg A) {a : Addr} {s : MS} (h : At H a A.Sc (msF s)) (ha : Ev ta σ H (.ref a)) : Ev (tFld K ta "given") σ H (.int s.given) := ev_fld ha h X.cl_Sc X.na_Sc_given (lk_Sc_given s)
theorem ev_Sc_fines (X : Tx K mg A) {a : Addr} {s : MS} (h : At H a A.Sc (msF s)) (ha : Ev ta σ H (.ref a)) : Ev (tFld K ta "fines") σ H (.int s.fines) := ev_fld ha h X.cl_Sc X.na_Sc_fines (lk_Sc_fines s)
theorem ev_Sc_out (X : Tx K mg A) {a : Addr} {s : MS} (h : At H a A.Sc (msF s)) (ha : Ev ta σ H (.ref a)) : Ev (tFld K ta "out") σ H (.int s.out) := ev_fld ha h X.cl_Sc X.na_Sc_out (lk_Sc_out s)
theorem ev_Of_number (X : Tx K mg A) {a : Addr} {o : MO} (h : At H a A.Of (moF o)) (ha : Ev ta σ H (.ref a)) : Ev (tFld K ta "number") σ H (.int o.number) := ev_fld ha h X.cl_Of X.na_Of_number (lk_Of_number o)
theorem ev_Of_school (X : Tx K mg A) {a : Addr} {o : MO} (h : At H a A.Of (moF o)) (ha : Ev ta σ H (.ref a)) : Ev (tFld K ta "school") σ H (.int o.school) := ev_fld ha h X.cl_Of X.na_Of_school (lk_Of_school o)
theorem ev_Of_day (X : Tx K mg A) {a : Addr} {o : MO} (h : At H a A.Of (moF o)) (ha : Ev ta σ H (.ref a)) : Ev (tFld K ta "day") σ H (.int o.day) := ev_fld ha h X.cl_Of X.na_Of_day (lk_Of_day o)
theorem ev_Ru_places (X : Tx K mg A) {a : Addr} {rl : List Addr} (h : At H a A.Ru (ruF rl)) (ha : Ev ta σ H (.ref a)) : Ev (tFld K ta "places") σ H (.ref (rl.getD 0 0)) := ev_fld ha h X.cl_Ru X.na_Ru_places (lk_Ru_places rl)
theorem ev_Ru_form (X : Tx K mg A) {a : Addr} {rl : List Addr} (h : At H a A.Ru (ruF rl)) (ha : Ev ta σ H (.ref a)) : Ev (tFld K ta "form") σ H (.ref (rl.getD 1 0)) := ev_fld ha h X.cl_Ru X.na_Ru_form (lk_Ru_form rl)
theorem ev_Ru_cap (X : Tx K mg A) {a : Addr} {rl : List Addr} (h : At H a A.Ru (ruF rl)) (ha : Ev ta σ H (.ref a)) : Ev (tFld K ta "cap") σ H (.ref (rl.getD 2 0)) := ev_fld ha h X.cl_Ru X.na_Ru_cap (lk_Ru_cap rl)
theorem ev_Ru_judges (X : Tx K mg A) {a : Addr} {rl : List Addr} (h : At H a A.Ru (ruF rl)) (ha : Ev ta σ H (.ref a)) : Ev (tFld K ta "judges") σ H (.ref (rl.getD 3 0)) := ev_fld ha h X.cl_Ru X.na_Ru_judges (lk_Ru_judges rl)
theorem ev_Ru_fee (X : Tx K mg A) {a : Addr} {rl : List Addr} (h : At H a A.Ru (ruF rl)) (ha : Ev ta σ H (.ref a)) : Ev (tFld K ta "fee") σ H (.ref (rl.getD 4 0)) := ev_fld ha h X.cl_Ru X.na_Ru_fee (lk_Ru_fee rl)
theorem ev_Ru_fine (X : Tx K mg A) {a : Addr} {rl : List Addr} (h : At H a A.Ru (ruF rl)) (ha : Ev ta σ H (.ref a)) : Ev (tFld K ta "fine") σ H (.ref (rl.getD 5 0)) := ev_fld ha h X.cl_Ru X.na_Ru_fine (lk_Ru_fine rl)
theorem ev_Ru_answer (X : Tx K mg A) {a : Addr} {rl : List Addr} (h : At H a A.Ru (ruF rl)) (ha : Ev ta σ H (.ref a)) : Ev (tFld K ta "answer") σ H (.ref (rl.getD 6 0)) := ev_fld ha h X.cl_Ru X.na_Ru_answer (lk_Ru_answer rl)
theorem ev_Ru_begin (X : Tx K mg A) {a : Addr} {rl : List Addr} (h : At H a A.Ru (ruF rl)) (ha : Ev ta σ H (.ref a)) : Ev (tFld K ta "begin") σ H (.ref (rl.getD 7 0)) := ev_fld ha h X.cl_Ru X.na_Ru_begin (lk_Ru_begin rl)
theorem ev_Ru_back (X : Tx K mg A) {a : Addr} {rl : List Addr} (h : At H a A.Ru (ruF rl)) (ha : Ev ta σ H (.ref a)) : Ev (tFld K ta "back") σ H (.ref (rl.getD 8 0)) := ev_fld ha h X.cl_Ru X.na_Ru_back (lk_Ru_back rl)
theorem ev_St_rules (X : Tx K mg A) {a : Addr} {L : Lay} {m : M} (h : At H a A.St (stF L m)) (ha : Ev ta σ H (.ref a)) : Ev (tFld K ta "rules") σ H (.ref L.ru) := ev_fld ha h X.cl_St X.na_St_rules (lk_St_rules L m)
theorem ev_St_schools (X : Tx K mg A) {a : Addr} {L : Lay} {m : M} (h : At H a A.St (stF L m)) (ha : Ev ta σ H (.ref a)) : Ev (tFld K ta "schools") σ H (.ref L.sl) := ev_fld ha h X.cl_St X.na_St_schools (lk_St_schools L m)
theorem ev_St_offers (X : Tx K mg A) {a : Addr} {L : Lay} {m : M} (h : At H a A.St (stF L m)) (ha : Ev ta σ H (.ref a)) : Ev (tFld K ta "offers") σ H (.ref L.ol) := ev_fld ha h X.cl_St X.na_St_offers (lk_St_offers L m)
theorem ev_St_made (X : Tx K mg A) {a : Addr} {L : Lay} {m : M} (h : At H a A.St (stF L m)) (ha : Ev ta σ H (.ref a)) : Ev (tFld K ta "made") σ H (.int m.made) := ev_fld ha h X.cl_St X.na_St_made (lk_St_made L m)
theorem ev_St_day (X : Tx K mg A) {a : Addr} {L : Lay} {m : M} (h : At H a A.St (stF L m)) (ha : Ev ta σ H (.ref a)) : Ev (tFld K ta "day") σ H (.int m.day) := ev_fld ha h X.cl_St X.na_St_day (lk_St_day L m)
theorem ev_St_is_closed (X : Tx K mg A) {a : Addr} {L : Lay} {m : M} (h : At H a A.St (stF L m)) (ha : Ev ta σ H (.ref a)) : Ev (tFld K ta "is_closed") σ H (.bl m.closed) := ev_fld ha h X.cl_St X.na_St_is_closed (lk_St_is_closed L m)
theorem ev_St_entries (X : Tx K mg A) {a : Addr} {L : Lay} {m : M} (h : At H a A.St (stF L m)) (ha : Ev ta σ H (.ref a)) : Ev (tFld K ta "entries") σ H (.int m.entries) := ev_fld ha h X.cl_St X.na_St_entries (lk_St_entries L m)
theorem ev_De_state (X : Tx K mg A) {a : Addr} {st : Addr} (h : At H a A.De (deF st)) (ha : Ev ta σ H (.ref a)) : Ev (tFld K ta "state") σ H (.ref st) := ev_fld ha h X.cl_De X.na_De_state (lk_De_state st)
theorem ev_Cr_calls (X : Tx K mg A) {a : Addr} {c : Addr} {i : Int} (h : At H a A.Cr (crF c i)) (ha : Ev ta σ H (.ref a)) : Ev (tFld K ta "calls") σ H (.ref c) := ev_fld ha h X.cl_Cr X.na_Cr_calls (lk_Cr_calls c i)
theorem ev_Cr_at (X : Tx K mg A) {a : Addr} {c : Addr} {i : Int} (h : At H a A.Cr (crF c i)) (ha : Ev ta σ H (.ref a)) : Ev (tFld K ta "at") σ H (.int i) := ev_fld ha h X.cl_Cr X.na_Cr_at (lk_Cr_at c i)
end
end Eh

-- EhS
set_option Elab.async false
set_option linter.all false
set_option maxRecDepth 100000
set_option maxHeartbeats 4000000
namespace Eh
open PySem PySem.Spec PyProof.Rows L2 EhR EhZ Evl
/-! ### the state in the heap -/
structure RuAt (A : Ads) (H : Hp) (ru : Addr) (rl : List Addr) (r : MR) : Prop where
  ob : At H ru A.Ru (ruF rl)
  len : rl.length = 9
  rows : ∀ (k : Nat) (a : Addr) (ns : List Int), rl[k]? = some a → r.rows[k]? = some ns → H a = some (.lst (iV ns))
structure Objs {α : Type} (H : Hp) (C : Addr) (F : α → List (Str × V)) (as : List Addr) (xs : List α) : Prop where
  len : as.length = xs.length
  ob : ∀ (i : Nat) (a : Addr) (x : α), as[i]? = some a → xs[i]? = some x → At H a C (F x)
structure Body (A : Ads) (H : Hp) (L : Lay) (m : M) : Prop where
  ru : RuAt A H L.ru L.rl m.rules
  sl : H L.sl = some (.lst (refs L.ss))
  ss : Objs H A.Sc msF L.ss m.schools
  ol : H L.ol = some (.lst (refs L.os))
  os : Objs H A.Of moF L.os m.offers
  nd : L.ss.Nodup
  d1 : L.sl ≠ L.ol
  d2 : L.sl ∉ L.rl
  d3 : L.ol ∉ L.rl
structure StAt (A : Ads) (H : Hp) (L : Lay) (m : M) : Prop where
  st : At H L.st A.St (stF L m)
  bd : Body A H L m
def bfoot (L : Lay) : List Addr := L.ru :: L.sl :: L.ol :: (L.rl ++ (L.ss ++ L.os))
def foot (L : Lay) : List Addr := L.st :: bfoot L
section
variable {A : Ads} {H H' : Hp} {L L' : Lay} {m m' : M} {a ru : Addr} {rl : List Addr} {r : MR} {o : HO}
theorem RuAt.ex (h : RuAt A H ru rl r) (e : Ex H H') : RuAt A H' ru rl r := ⟨h.ob.ex e, h.len, fun k a ns h1 h2 => e a _ (h.rows k a ns h1 h2)⟩
theorem Objs.ex {α : Type} {C : Addr} {F : α → List (Str × V)} {as : List Addr} {xs : List α} (h : Objs H C F as xs) (e : Ex H H') : Objs H' C F as xs := ⟨h.len, fun i a x h1 h2 => (h.ob i a x h1 h2).ex e⟩
theorem Body.ex (h : Body A H L m) (e : Ex H H') : Body A H' L m := ⟨h.ru.ex e, e _ _ h.sl, h.ss.ex e, e _ _ h.ol, h.os.ex e, h.nd, h.d1, h.d2, h.d3⟩
theorem StAt.ex (h : StAt A H L m) (e : Ex H H') : StAt A H' L m := ⟨h.st.ex e, h.bd.ex e⟩
theorem get_of_mem {α : Type} {l : List α} {x : α} (h : x ∈ l) : ∃ i : Nat, l[i]? = some x := by
  obtain ⟨i, hi, e⟩ := List.mem_iff_getElem.mp h
  exact ⟨i, by rw [List.getElem?_eq_getElem hi, e]⟩
theorem get_len {α β : Type} {l : List α} {k : List β} (h : l.length = k.length) {i : Nat} {x : α} (e : l[i]? = some x) : ∃ y, k[i]? = some y := by
  have hi : i < l.length := (List.getElem?_eq_some_iff.mp e).1
  exact ⟨k[i]'(by omega), List.getElem?_eq_getElem _⟩
theorem rows_len (r : MR) : r.rows.length = 9 := rfl
theorem RuAt.off (h : RuAt A H ru rl r) (h1 : ru ≠ a) (h2 : a ∉ rl) : RuAt A (upd H a o) ru rl r :=
  ⟨h.ob.off h1, h.len, fun k b ns e1 e2 => by
    have nb : b ≠ a := fun z => h2 (z ▸ List.mem_of_getElem? e1)
    rw [upd_ne nb]
    exact h.rows k b ns e1 e2⟩
theorem Objs.off {α : Type} {C : Addr} {F : α → List (Str × V)} {as : List Addr} {xs : List α} (h : Objs H C F as xs) (h2 : a ∉ as) : Objs (upd H a o) C F as xs :=
  ⟨h.len, fun i b x e1 e2 => (h.ob i b x e1 e2).off fun z => h2 (z ▸ List.mem_of_getElem? e1)⟩
theorem mem_bfoot {b : Addr} : b ∈ bfoot L ↔ b = L.ru ∨ b = L.sl ∨ b = L.ol ∨ b ∈ L.rl ∨ b ∈ L.ss ∨ b ∈ L.os := by
  unfold bfoot
  simp only [List.mem_cons, List.mem_append]
theorem mem_foot {b : Addr} : b ∈ foot L ↔ b = L.st ∨ b ∈ bfoot L := by
  unfold foot
  rw [List.mem_cons]
theorem Body.off (h : Body A H L m) (hn : a ∉ bfoot L) : Body A (upd H a o) L m := by
  have n : ∀ b, b ∈ bfoot L → b ≠ a := fun b hb z => hn (z ▸ hb)
  have n1 := n L.ru (mem_bfoot.mpr (.inl rfl))
  have n2 := n L.sl (mem_bfoot.mpr (.inr (.inl rfl)))
  have n3 := n L.ol (mem_bfoot.mpr (.inr (.inr (.inl rfl))))
  refine ⟨h.ru.off n1 fun z => hn (mem_bfoot.mpr (.inr (.inr (.inr (.inl z))))), ?_, h.ss.off fun z => hn (mem_bfoot.mpr (.inr (.inr (.inr (.inr (.inl z)))))), ?_, h.os.off fun z => hn (mem_bfoot.mpr (.inr (.inr (.inr (.inr (.inr z)))))), h.nd, h.d1, h.d2, h.d3⟩
  · rw [upd_ne n2]; exact h.sl
  · rw [upd_ne n3]; exact h.ol
/-! objects of unlike classes stand apart -/
theorem fs_ne {f g : Str} {v w : V} {r t : List (Str × V)} (h : ¬ f = g) : (f, v) :: r ≠ (g, w) :: t := fun e => h (congrArg Prod.fst (List.cons.inj e).1)
theorem ms_st (s : MS) (L : Lay) (m : M) : msF s ≠ stF L m := fs_ne (by decide +kernel)
theorem mo_st (s : MO) (L : Lay) (m : M) : moF s ≠ stF L m := fs_ne (by decide +kernel)
theorem ru_st (rl : List Addr) (L : Lay) (m : M) : ruF rl ≠ stF L m := fs_ne (by decide +kernel)
theorem ms_ru (s : MS) (rl : List Addr) : msF s ≠ ruF rl := fs_ne (by decide +kernel)
theorem mo_ru (s : MO) (rl : List Addr) : moF s ≠ ruF rl := fs_ne (by decide +kernel)
theorem ms_mo (s : MS) (o : MO) : msF s ≠ moF o := fun e => absurd (List.cons.inj e).2 (fs_ne (by decide +kernel))
theorem RuAt.lst (h : RuAt A H ru rl r) {b : Addr} (hb : b ∈ rl) : ∃ xs, H b = some (.lst xs) := by
  obtain ⟨i, hi⟩ := get_of_mem hb
  obtain ⟨ns, hn⟩ := get_len (k := r.rows) (by rw [h.len, rows_len]) hi
  exact ⟨_, h.rows i b ns hi hn⟩
theorem Objs.mem {α : Type} {C : Addr} {F : α → List (Str × V)} {as : List Addr} {xs : List α} (h : Objs H C F as xs) {b : Addr} (hb : b ∈ as) : ∃ x, At H b C (F x) := by
  obtain ⟨i, hi⟩ := get_of_mem hb
  obtain ⟨x, hx⟩ := get_len h.len hi
  exact ⟨x, h.ob i b x hi hx⟩
/-- the state object stands apart from what it holds -/
theorem Body.st_out (h : Body A H L m) {st : Addr} {L0 : Lay} {m0 : M} (hs : At H st A.St (stF L0 m0)) : st ∉ bfoot L := fun z => by
  rcases mem_bfoot.mp z with e | e | e | e | e | e
  · exact hs.ne_of h.ru.ob (Ne.symm (ru_st _ _ _)) e
  · exact hs.ne_lst h.sl e
  · exact hs.ne_lst h.ol e
  · obtain ⟨xs, hx⟩ := h.ru.lst e
    exact hs.ne_lst hx rfl
  · obtain ⟨x, hx⟩ := h.ss.mem e
    exact hs.ne_of hx (Ne.symm (ms_st _ _ _)) rfl
  · obtain ⟨x, hx⟩ := h.os.mem e
    exact hs.ne_of hx (Ne.symm (mo_st _ _ _)) rfl
/-- the state object is written -/
theorem StAt.setSt (h : StAt A H L m) (hs : L'.st = L.st) (hb : Body A H L' m') {dx : Addr} : StAt A (upd H L.st (.ins A.St dx (stF L' m'))) L' m' :=
  ⟨⟨dx, by rw [hs]; exact upd_same⟩, hb.off (hb.st_out h.st)⟩
theorem StAt.sch (h : StAt A H L m) {i : Nat} {s : MS} (e1 : L.ss[i]? = some a) (e2 : m.schools[i]? = some s) : At H a A.Sc (msF s) := h.bd.ss.ob i a s e1 e2
theorem StAt.sch_get (h : StAt A H L m) {i : Nat} (hi : i < m.schools.length) : ∃ a, L.ss[i]? = some a ∧ At H a A.Sc (msF (m.sch i)) := by
  have hl := h.bd.ss.len
  have e1 : L.ss[i]? = some (L.ss[i]'(by omega)) := List.getElem?_eq_getElem _
  refine ⟨_, e1, h.bd.ss.ob i _ _ e1 ?_⟩
  unfold M.sch
  rw [List.getD_eq_getElem?_getD, List.getElem?_eq_getElem hi]
  rfl
/-- a school is written -/
theorem StAt.setSch (h : StAt A H L m) {i : Nat} (e1 : L.ss[i]? = some a) (s : MS) {dx : Addr} : StAt A (upd H a (.ins A.Sc dx (msF s))) L { m with schools := m.schools.set i s } := by
  obtain ⟨s0, hs0⟩ := get_len h.bd.ss.len e1
  have ha := h.bd.ss.ob i a s0 e1 hs0
  have n0 : L.st ≠ a := fun z => ha.ne_of h.st (ms_st _ _ _) z.symm
  have n1 : L.ru ≠ a := fun z => ha.ne_of h.bd.ru.ob (ms_ru _ _) z.symm
  have n2 : L.sl ≠ a := fun z => ha.ne_lst h.bd.sl z.symm
  have n3 : L.ol ≠ a := fun z => ha.ne_lst h.bd.ol z.symm
  have n4 : a ∉ L.rl := fun z => by
    obtain ⟨xs, hx⟩ := h.bd.ru.lst z
    exact ha.ne_lst hx rfl
  have n5 : a ∉ L.os := fun z => by
    obtain ⟨x, hx⟩ := h.bd.os.mem z
    exact ha.ne_of hx (ms_mo _ _) rfl
  refine ⟨h.st.off n0, h.bd.ru.off n1 n4, by rw [upd_ne n2]; exact h.bd.sl, ⟨by rw [List.length_set]; exact h.bd.ss.len, fun j b x b1 b2 => ?_⟩, by rw [upd_ne n3]; exact h.bd.ol, h.bd.os.off n5, h.bd.nd, h.bd.d1, h.bd.d2, h.bd.d3⟩
  by_cases c : j = i
  · subst c
    rw [e1] at b1
    cases b1
    have hi : j < m.schools.length := (List.getElem?_eq_some_iff.mp hs0).1
    have b2' : (m.schools.set j s)[j]? = some x := b2
    rw [List.getElem?_set_self hi] at b2'
    cases b2'
    exact ⟨dx, upd_same⟩
  · have b2' : (m.schools.set i s)[j]? = some x := b2
    rw [List.getElem?_set_ne (Ne.symm c)] at b2'
    exact (h.bd.ss.ob j b x b1 b2').off fun z => c (nd_ix h.bd.nd b1 (z ▸ e1))
/-- a school is added -/
theorem StAt.addSch (h : StAt A H L m) {s : MS} (ha : At H a A.Sc (msF s)) (hn : a ∉ L.ss) : StAt A (upd H L.sl (.lst (refs (L.ss ++ [a])))) { L with ss := L.ss ++ [a] } { m with schools := m.schools ++ [s] } := by
  have n0 : L.st ≠ L.sl := h.st.ne_lst h.bd.sl
  have n1 : L.ru ≠ L.sl := h.bd.ru.ob.ne_lst h.bd.sl
  have n5 : L.sl ∉ L.os := fun z => by
    obtain ⟨x, hx⟩ := h.bd.os.mem z
    exact hx.ne_lst h.bd.sl rfl
  have hobj : ∀ b x, At H b A.Sc (msF x) → b ≠ L.sl := fun b x hb => hb.ne_lst h.bd.sl
  refine ⟨h.st.off n0, h.bd.ru.off n1 h.bd.d2, upd_same, ⟨by rw [List.length_append, List.length_append, h.bd.ss.len]; rfl, fun j b x b1 b2 => ?_⟩, by rw [upd_ne (Ne.symm h.bd.d1)]; exact h.bd.ol, h.bd.os.off n5, ?_, h.bd.d1, h.bd.d2, h.bd.d3⟩
  · have b2' : (m.schools ++ [s])[j]? = some x := b2
    have b1' : (L.ss ++ [a])[j]? = some b := b1
    have hl := h.bd.ss.len
    by_cases c : j < L.ss.length
    · rw [List.getElem?_append_left c] at b1'
      rw [List.getElem?_append_left (by omega)] at b2'
      have q := h.bd.ss.ob j b x b1' b2'
      exact q.off (hobj b x q)
    · rw [List.getElem?_append_right (by omega)] at b1' b2'
      rw [hl] at b1'
      have e0 : j - m.schools.length = 0 := by
        have : j - m.schools.length < 1 := (List.getElem?_eq_some_iff.mp b1').1
        omega
      rw [e0] at b1' b2'
      cases b1'
      cases b2'
      exact ha.off (hobj a s ha)
  · show (L.ss ++ [a]).Nodup
    rw [List.nodup_append]
    refine ⟨h.bd.nd, by simp, fun b hb c hc z => ?_⟩
    have : c = a := by simpa using hc
    rw [z, this] at hb
    exact hn hb
/-- an offer is added -/
theorem Body.addOff (h : Body A H L m) {o : MO} (ha : At H a A.Of (moF o)) : Body A (upd H L.ol (.lst (refs (L.os ++ [a])))) { L with os := L.os ++ [a] } { m with offers := m.offers ++ [o] } := by
  have n1 : L.ru ≠ L.ol := h.ru.ob.ne_lst h.ol
  have n5 : L.ol ∉ L.ss := fun z => by
    obtain ⟨x, hx⟩ := h.ss.mem z
    exact hx.ne_lst h.ol rfl
  refine ⟨h.ru.off n1 h.d3, by rw [upd_ne h.d1]; exact h.sl, h.ss.off n5, upd_same, ⟨by rw [List.length_append, List.length_append, h.os.len]; rfl, fun j b x b1 b2 => ?_⟩, h.nd, h.d1, h.d2, h.d3⟩
  have b2' : (m.offers ++ [o])[j]? = some x := b2
  have b1' : (L.os ++ [a])[j]? = some b := b1
  have hl := h.os.len
  by_cases c : j < L.os.length
  · rw [List.getElem?_append_left c] at b1'
    rw [List.getElem?_append_left (by omega)] at b2'
    have q := h.os.ob j b x b1' b2'
    exact q.off (q.ne_lst h.ol)
  · rw [List.getElem?_append_right (by omega)] at b1' b2'
    rw [hl] at b1'
    have e0 : j - m.offers.length = 0 := by
      have : j - m.offers.length < 1 := (List.getElem?_eq_some_iff.mp b1').1
      omega
    rw [e0] at b1' b2'
    cases b1'
    cases b2'
    exact ha.off (ha.ne_lst h.ol)
/-- other offers, in another list -/
theorem Body.newOl (h : Body A H L m) {p : Addr} {as : List Addr} {os : List MO} (hp : H p = some (.lst (refs as))) (ho : Objs H A.Of moF as os) (n1 : L.sl ≠ p) (n2 : p ∉ L.rl) : Body A H { L with ol := p, os := as } { m with offers := os } :=
  ⟨h.ru, h.sl, h.ss, hp, ho, h.nd, n1, h.d2, n2⟩
theorem Body.newRu (h : Body A H L m) {p : Addr} {as : List Addr} {r : MR} (hr : RuAt A H p as r) (n1 : L.sl ∉ as) (n2 : L.ol ∉ as) : Body A H { L with ru := p, rl := as } { m with rules := r } :=
  ⟨hr, h.sl, h.ss, h.ol, h.os, h.nd, h.d1, n1, n2⟩
end
/-! ### what stays -/
structure Fr (H H' : Hp) (F F' : List Addr) : Prop where
  keep : ∀ b o, H b = some o → b ∉ F → H' b = some o
  new : ∀ b ∈ F', b ∈ F ∨ H b = none
section
variable {H H1 H2 : Hp} {F F1 F2 : List Addr}
theorem Fr.refl (H : Hp) (F : List Addr) : Fr H H F F := ⟨fun _ _ h _ => h, fun _ h => .inl h⟩
theorem Fr.trans (a : Fr H H1 F F1) (b : Fr H1 H2 F1 F2) : Fr H H2 F F2 := by
  refine ⟨fun c o h n => ?_, fun c h => ?_⟩
  · have h1 := a.keep c o h n
    refine b.keep c o h1 fun z => ?_
    rcases a.new c z with q | q
    · exact n q
    · rw [h] at q; cases q
  · rcases b.new c h with q | q
    · exact a.new c q
    · by_cases hc : c ∈ F
      · exact .inl hc
      · refine .inr ?_
        cases e : H c with
        | none => rfl
        | some o =>
          rw [a.keep c o e hc] at q
          cases q
theorem Fr.of_ex (e : Ex H H1) (b : Fr H1 H2 F F1) : Fr H H2 F F1 := ⟨fun c o h n => b.keep c o (e c o h) n, fun c h => (b.new c h).imp id (fresh_back e)⟩
theorem Fr.ex (a : Fr H H1 F F1) (e : Ex H1 H2) : Fr H H2 F F1 := ⟨fun c o h n => e c o (a.keep c o h n), a.new⟩
theorem Fr.writeN {a : Addr} {o : HO} (h : a ∈ F) (hn : ∀ b ∈ F1, b ∈ F ∨ H b = none) : Fr H (upd H a o) F F1 := by
  refine ⟨fun c u hc n => ?_, hn⟩
  have nc : c ≠ a := fun z => n (z ▸ h)
  rw [upd_ne nc]
  exact hc
theorem Fr.write {a : Addr} {o : HO} (h : a ∈ F) : Fr H (upd H a o) F F := Fr.writeN h fun _ q => .inl q
end
/-! ### the desk -/
structure DAt (A : Ads) (H : Hp) (d : Addr) (L : Lay) (m : M) : Prop where
  ob : At H d A.De (deF L.st)
  st : StAt A H L m
  out : d ∉ foot L
def dfoot (d : Addr) (L : Lay) : List Addr := d :: foot L
section
variable {A : Ads} {H H' : Hp} {L L' : Lay} {m m' : M} {d : Addr}
theorem DAt.ex (h : DAt A H d L m) (e : Ex H H') : DAt A H' d L m := ⟨h.ob.ex e, h.st.ex e, h.out⟩
theorem DAt.of (h : DAt A H d L m) (f : Fr H H' (foot L) (foot L')) (hs : StAt A H' L' m') (e : L'.st = L.st) : DAt A H' d L' m' := by
  obtain ⟨dx, hx⟩ := h.ob
  refine ⟨⟨dx, by rw [e]; exact f.keep d _ hx h.out⟩, hs, fun z => ?_⟩
  rcases f.new d z with q | q
  · exact h.out q
  · rw [hx] at q; cases q
theorem Fr.desk (f : Fr H H' (foot L) (foot L')) : Fr H H' (dfoot d L) (dfoot d L') := by
  refine ⟨fun b o h n => f.keep b o h fun z => n (List.mem_cons_of_mem _ z), fun b h => ?_⟩
  rcases List.mem_cons.mp h with q | q
  · exact .inl (q ▸ List.mem_cons_self)
  · exact (f.new b q).imp (List.mem_cons_of_mem _) id
end
/-! ### the rules' numbers -/
section
variable {A : Ads} {H : Hp} {ru : Addr} {rl : List Addr} {r : MR}
theorem getD_get {l : List Addr} {k : Nat} (h : k < l.length) : l[k]? = some (l.getD k 0) := by
  rw [List.getD_eq_getElem?_getD, List.getElem?_eq_getElem h]
  rfl
theorem RuAt.row (h : RuAt A H ru rl r) (k : Nat) (hk : k < 9) {ns : List Int} (e : r.rows[k]? = some ns) : H (rl.getD k 0) = some (.lst (iV ns)) := h.rows k _ ns (getD_get (by rw [h.len]; exact hk)) e
theorem RuAt.places (h : RuAt A H ru rl r) : H (rl.getD 0 0) = some (.lst [.int r.places]) := h.row 0 (by decide) rfl
theorem RuAt.form (h : RuAt A H ru rl r) : H (rl.getD 1 0) = some (.lst [.int r.form]) := h.row 1 (by decide) rfl
theorem RuAt.cap (h : RuAt A H ru rl r) : H (rl.getD 2 0) = some (.lst [.int r.cap]) := h.row 2 (by decide) rfl
theorem RuAt.judges (h : RuAt A H ru rl r) : H (rl.getD 3 0) = some (.lst [.int r.each, .int r.many]) := h.row 3 (by decide) rfl
theorem RuAt.fee (h : RuAt A H ru rl r) : H (rl.getD 4 0) = some (.lst [.int r.fee]) := h.row 4 (by decide) rfl
theorem RuAt.fine (h : RuAt A H ru rl r) : H (rl.getD 5 0) = some (.lst [.int r.fine]) := h.row 5 (by decide) rfl
theorem RuAt.answer (h : RuAt A H ru rl r) : H (rl.getD 6 0) = some (.lst [.int r.answer]) := h.row 6 (by decide) rfl
theorem RuAt.begin_ (h : RuAt A H ru rl r) : H (rl.getD 7 0) = some (.lst [.int r.begin_]) := h.row 7 (by decide) rfl
theorem RuAt.back (h : RuAt A H ru rl r) : H (rl.getD 8 0) = some (.lst (iV r.back)) := h.row 8 (by decide) rfl
end
end Eh

-- EhE
set_option Elab.async false
set_option linter.all false
set_option maxRecDepth 100000
set_option maxHeartbeats 4000000
namespace Eh
open PySem PySem.Spec PyProof.Rows L2 EhR EhZ Evl
section
variable {K : PySem.W.Frag} {σ : L2.St} {H : Hp} {ta tb tc te : TE} {t : TT} {x y z v : V} {D : Ends} {tz tu : TS}
theorem ev_ix0 {p : Addr} {r : List V} (ha : Ev ta σ H (.ref p)) (h : H p = some (.lst (v :: r))) : Ev (tOp (rIxL K) ta (tC (.int 0))) σ H v :=
  ev_op ha ev_c (rv_ixL (SqL.of h) (atI_nat (j := 0) rfl))
theorem ev_ixn {p : Addr} {xs : List V} {i : Int} (ha : Ev ta σ H (.ref p)) (hb : Ev tb σ H (.int i)) (h : SqL K H p xs) (h0 : 0 ≤ i) (e : xs[i.toNat]? = some v) : Ev (tOp (rIxL K) ta tb) σ H v := by
  refine ev_op ha hb (rv_ixL h ?_)
  have e2 : i = (i.toNat : Int) := by omega
  rw [e2]
  exact atI_nat e
theorem ev_i0 {f : Int → Int → V} {i j : Int} (ha : Ev ta σ H (.int i)) (hb : Ev tb σ H (.int j)) : Ev (tOp (rI0 f) ta tb) σ H (f i j) := ev_op ha hb rv_I0
theorem ev_iC {C : Int → Int → Prop} {f : Int → Int → V} {i j : Int} (ha : Ev ta σ H (.int i)) (hb : Ev tb σ H (.int j)) (hc : C i j) : Ev (tOp (rI C f) ta tb) σ H (f i j) := ev_op ha hb (rv_I hc)
theorem ev_neg {i : Int} (ha : Ev ta σ H (.int i)) : Ev (tUn (rU fun i => .int (-i)) ta) σ H (.int (-i)) := ev_un ha ru_neg
theorem ev_eq (ha : Ev ta σ H x) (hb : Ev tb σ H y) (h : scal x y = true) : Ev (tOp rEq ta tb) σ H (.bl (decide (x = y))) := ev_op ha hb (rv_eq h)
theorem ev_ne (ha : Ev ta σ H x) (hb : Ev tb σ H y) (h : scal x y = true) : Ev (tOp rNe ta tb) σ H (.bl (!decide (x = y))) := ev_op ha hb (rv_ne h)
/-- whole numbers, texts equal -/
theorem ev_eqI {i j : Int} (ha : Ev ta σ H (.int i)) (hb : Ev tb σ H (.int j)) : Ev (tOp rEq ta tb) σ H (.bl (decide (i = j))) := by
  refine ev_is (ev_eq ha hb rfl) (congrArg V.bl (decide_eq_decide.mpr ⟨fun e => by injection e, fun e => by rw [e]⟩))
theorem ev_neI {i j : Int} (ha : Ev ta σ H (.int i)) (hb : Ev tb σ H (.int j)) : Ev (tOp rNe ta tb) σ H (.bl (!decide (i = j))) := by
  refine ev_is (ev_ne ha hb rfl) (congrArg V.bl (congrArg not (decide_eq_decide.mpr ⟨fun e => by injection e, fun e => by rw [e]⟩)))
theorem ev_chain {f g : Int → Int → Bool} {i j k : Int} (ha : Ev ta σ H (.int i)) (hb : Ev tb σ H (.int j)) (hc : Ev tc σ H (.int k)) : Ev (tChain (rI0 fun i j => .bl (f i j)) (rI0 fun i j => .bl (g i j)) ta tb tc) σ H (.bl (f i j && g j k)) := fun H1 e Q q =>
  ha H1 e _ fun H2 e2 => hb H2 (e.trans e2) _ fun H3 e3 => ⟨i, j, rfl, rfl, f i j, rfl, by
    cases hf : f i j with
    | true =>
      refine hc H3 ((e.trans e2).trans e3) _ fun H4 e4 => ⟨j, k, rfl, rfl, ?_⟩
      have q' := q H4 ((e2.trans e3).trans e4)
      rw [hf, Bool.true_and] at q'
      exact q'
    | false =>
      have q' := q H3 (e2.trans e3)
      rw [hf] at q'
      exact q'⟩
theorem ev_isN (ha : Ev ta σ H x) : Ev (tOp (fun x y H Q => y = .non ∧ Q (.bl (decide (x = .non))) H) ta (tC .non)) σ H (.bl (decide (x = .non))) := fun H1 e Q q =>
  ha H1 e _ fun H2 e2 => ⟨rfl, q H2 e2⟩
theorem ev_notN (ha : Ev ta σ H x) : Ev (tOp (fun x y H Q => y = .non ∧ Q (.bl (!decide (x = .non))) H) ta (tC .non)) σ H (.bl (!decide (x = .non))) := fun H1 e Q q =>
  ha H1 e _ fun H2 e2 => ⟨rfl, q H2 e2⟩
/-- a list beside [] -/
theorem ev_nil {p : Addr} {xs : List V} {neg : Bool} (ha : Ev ta σ H (.ref p)) (h : SqL K H p xs) : Ev (tOp (rNilC K neg) ta (tLst tNil)) σ H (.bl (if neg = true then !xs.isEmpty else xs.isEmpty)) := fun H1 e Q q =>
  ha H1 e _ fun H2 e2 => ⟨by show 0 ≤ sizeLine; exact Nat.zero_le _, fun p2 hp => ⟨p, p2, xs, rfl, rfl, ex_l ((e.trans e2).trans (Ex.new hp)) h, SqL.of upd_same, q _ (e2.trans (Ex.new hp))⟩⟩
theorem ev_nilL {xs : List V} {neg : Bool} (ha : EvL ta σ H xs) : Ev (tOp (rNilC K neg) ta (tLst tNil)) σ H (.bl (if neg = true then !xs.isEmpty else xs.isEmpty)) := fun H1 e Q q =>
  ha H1 e _ fun p H2 _ e2 h2 => ⟨by show 0 ≤ sizeLine; exact Nat.zero_le _, fun p2 hp => ⟨p, p2, xs, rfl, rfl, ex_l (Ex.new hp) (SqL.of h2), SqL.of upd_same, q _ (e2.trans (Ex.new hp))⟩⟩
theorem ev_sum {a : Addr} {ns : List Int} (ha : Ev ta σ H (.ref a)) (h : SqL K H a (ns.map V.int)) : Ev (tCB (rSum K) (tCons ta tNil)) σ H (.int ns.sum) := fun H1 e Q q =>
  ha H1 e _ fun H2 e2 => ⟨a, ns, rfl, ex_l (e.trans e2) h, q H2 e2⟩
theorem ev_sumL {ns : List Int} (ha : EvL ta σ H (ns.map V.int)) : Ev (tCB (rSum K) (tCons ta tNil)) σ H (.int ns.sum) := fun H1 e Q q =>
  ha H1 e _ fun p H2 _ e2 h2 => ⟨p, ns, rfl, SqL.of h2, q H2 e2⟩
theorem ev_intB {b : Bool} (ha : Ev ta σ H (.bl b)) : Ev (tCB (fun xs H Q => (∃ i, xs = [.int i] ∧ Q (.int i) H) ∨ ∃ k, xs = [.bl k] ∧ Q (.int (if k then 1 else 0)) H) (tCons ta tNil)) σ H (.int (if b = true then 1 else 0)) := fun H1 e Q q =>
  ha H1 e _ fun H2 e2 => .inr ⟨b, rfl, q H2 e2⟩
/-- a list that is there, or a new one -/
def EvX (te : TE) (σ : L2.St) (H : Hp) (xs : List V) : Prop := ∀ H1, Ex H H1 → ∀ Q : VK, (∀ p H2, Ex H1 H2 → H2 p = some (.lst xs) → Q (.ref p) H2) → te σ H1 Q
theorem x_of_L {xs : List V} (h : EvL te σ H xs) : EvX te σ H xs := fun H1 e Q q => h H1 e Q fun p H2 _ e2 h2 => q p H2 e2 h2
theorem x_of {p : Addr} {xs : List V} (h : Ev te σ H (.ref p)) (hp : H p = some (.lst xs)) : EvX te σ H xs := fun H1 e Q q => h H1 e Q fun H2 e2 => q p H2 e2 (e2 p _ (e p _ hp))
theorem x_mono {H' : Hp} {xs : List V} (e : Ex H H') (h : EvX te σ H xs) : EvX te σ H' xs := fun H1 a Q q => h H1 (e.trans a) Q q
theorem el_cat {xs ys : List V} (ha : EvX ta σ H xs) (hb : EvX tb σ H ys) (hz : xs.length + ys.length ≤ 10000000) : EvL (tOp rCat ta tb) σ H (xs ++ ys) := fun H1 e Q q =>
  ha H1 e _ fun p H2 e2 hp => hb H2 (e.trans e2) _ fun p2 H3 e3 hp2 => ⟨p, p2, xs, ys, rfl, rfl, e3 p _ hp, hp2, Nat.le_trans hz (by decide), fun l hl => q l _ (fresh_back (e2.trans e3) hl) ((e2.trans e3).trans (Ex.new hl)) upd_same⟩
theorem x_ix0 {r : List V} (ha : EvX ta σ H (v :: r)) : Ev (tOp (rIxL K) ta (tC (.int 0))) σ H v := fun H1 e Q q =>
  ha H1 e _ fun p H2 e2 hp => ⟨p, v :: r, 0, v, rfl, rfl, SqL.of hp, atI_nat (j := 0) rfl, q H2 e2⟩
theorem ev_lenX {xs : List V} (ha : EvX ta σ H xs) : Ev (tCB (rLenS K) (tCons ta tNil)) σ H (.int (xs.length : Int)) := fun H1 e Q q =>
  ha H1 e _ fun p H2 e2 h2 => ⟨p, xs, rfl, .inl (SqL.of h2), q H2 e2⟩
theorem ev_ord {c : Nat} (ha : Ev ta σ H (.str ⟨#[c]⟩)) : Ev (tCB (fun xs H Q => ∃ x, xs = [.str x] ∧ x.length = 1 ∧ Q (.int (x.cps.getD 0 0 : Nat)) H) (tCons ta tNil)) σ H (.int (c : Int)) := fun H1 e Q q =>
  ha H1 e _ fun H2 e2 => ⟨⟨#[c]⟩, rfl, rfl, q H2 e2⟩
/-! statements -/
theorem q_unpack2 {i j : Nat} {p : Addr} (h : Ev te σ H (.ref p)) (hp : H p = some (.lst [v, x])) (k : ∀ H1, Ex H H1 → tz D ((σ.set i (some v)).set j (some x)) H1) :
    tSeq (tAsg te (gLst K 2 (gCons (gName i) (gCons (gName j) gNil)))) tz D σ H :=
  h H (Ex.refl H) _ fun H1 e => ⟨p, [v, x], rfl, ex_l e (SqL.of hp), rfl, v, [x], rfl, x, [], rfl, rfl, k H1 e⟩
/-- for i, x in enumerate(xs) -/
theorem for_enumL {a : Addr} {xs : List V} {g : TG} {tb : TS} {D : Ends} {σ : L2.St} {H : Hp} (Pv : Nat → L2.St → Hp → Prop) (h0 : Pv 0 σ H) (hq : ∀ i σ H, Pv i σ H → SqL K H a xs)
    (hs : ∀ (i : Nat) (x : V) (T : Addr) (σ : L2.St) (H : Hp), xs[i]? = some x → Pv i σ H → H T = none → g (.ref T) σ (upd H T (.tup [.int (i : Nat), x])) fun σ2 H2 => tb { D with nx := Pv (i + 1), ct := Pv (i + 1), bk := D.nx } σ2 H2) (hd : ∀ σ H, Pv xs.length σ H → D.nx σ H) :
    ∃ W : Nat → Nat → L2.St → Hp → Prop, (∃ m, W 0 m σ H) ∧ ∀ i m σ H, W i m σ H →
      ((Ite K a).stop i H ∧ D.nx σ H) ∨ ((Ite K a).go i H ∧ ∃ N : L2.St → Hp → Prop, (∀ σ' H', N σ' H' → ∃ m', m' < m ∧ W (i + 1) m' σ' H') ∧ ∀ v H', (Ite K a).yld i H v H' → g v σ H' fun σ2 H2 => tb { D with nx := N, ct := N, bk := D.nx } σ2 H2) := by
  refine ⟨fun i m σ H => m = xs.length - i ∧ i ≤ xs.length ∧ Pv i σ H, ⟨xs.length, rfl, Nat.zero_le _, h0⟩, ?_⟩
  rintro i m σ H ⟨rfl, hi, p⟩
  have qx := hq i σ H p
  by_cases hlt : i < xs.length
  · refine .inr ⟨⟨xs, xs[i], qx, List.getElem?_eq_getElem hlt⟩, Pv (i + 1), fun σ' H' p' => ⟨xs.length - (i + 1), by omega, rfl, hlt, p'⟩, fun v H' y => ?_⟩
    obtain ⟨T, x', rfl, hT, rfl, f1⟩ := y
    exact hs i x' T σ H (f1 xs qx) p hT
  · have e : i = xs.length := by omega
    subst e
    exact .inl ⟨⟨xs, qx, Nat.le_refl _⟩, hd σ H p⟩
/-- the two names of the pair -/
theorem g_pair {i j : Nat} {T : Addr} {v w : V} {Q : L2.St → Hp → Prop} (h : SqT K H T [v, w]) (k : Q ((σ.set i (some v)).set j (some w)) H) : gTup K 2 (gCons (gName i) (gCons (gName j) gNil)) (.ref T) σ H Q :=
  ⟨T, [v, w], rfl, h, rfl, v, [w], rfl, w, [], rfl, rfl, k⟩
theorem s_forE {a : Addr} {xs : List V} {ta : TA} {i0 j0 : Nat} (h : EvA ta σ H [.ref a]) (hx : SqL K H a xs) (Pv : Nat → L2.St → Hp → Prop) (h0 : ∀ H1, Ex H H1 → Pv 0 σ H1) (hq : ∀ i σ H, Pv i σ H → SqL K H a xs)
    (hs : ∀ (i : Nat) (x : V) (T : Addr) (σ : L2.St) (H : Hp), xs[i]? = some x → Pv i σ H → H T = none → tu { D with nx := Pv (i + 1), ct := Pv (i + 1), bk := D.nx } ((σ.set i0 (some (.int (i : Nat)))).set j0 (some x)) (upd H T (.tup [.int (i : Nat), x]))) (hd : ∀ σ H, Pv xs.length σ H → D.nx σ H) :
    tFor (iEnum K ta) (gTup K 2 (gCons (gName i0) (gCons (gName j0) gNil))) tu D σ H :=
  h H (Ex.refl H) _ fun H1 e => ⟨a, xs, rfl, ex_l e hx, for_enumL Pv (h0 H1 e) hq (fun i x T σ H hi p hT => g_pair (SqT.of upd_same) (hs i x T σ H hi p hT)) hd⟩
theorem q_forE {a : Addr} {xs : List V} {ta : TA} {i0 j0 : Nat} (h : EvA ta σ H [.ref a]) (hx : SqL K H a xs) (Pv : Nat → L2.St → Hp → Prop) (h0 : ∀ H1, Ex H H1 → Pv 0 σ H1) (hq : ∀ i σ H, Pv i σ H → SqL K H a xs)
    (hs : ∀ (i : Nat) (x : V) (T : Addr) (σ : L2.St) (H : Hp), xs[i]? = some x → Pv i σ H → H T = none → tu { D with nx := Pv (i + 1), ct := Pv (i + 1), bk := tz D } ((σ.set i0 (some (.int (i : Nat)))).set j0 (some x)) (upd H T (.tup [.int (i : Nat), x]))) (hd : ∀ σ H, Pv xs.length σ H → tz D σ H) :
    tSeq (tFor (iEnum K ta) (gTup K 2 (gCons (gName i0) (gCons (gName j0) gNil))) tu) tz D σ H := s_forE (D := { D with nx := tz D }) h hx Pv h0 hq hs hd
/-- for i in range(0, n, 2), n even and small -/
theorem rg2 : ∀ k, k < 7 → RgC 0 ((2 * k : Nat) : Int) 2 k := by
  intro k hk
  have c : k = 0 ∨ k = 1 ∨ k = 2 ∨ k = 3 ∨ k = 4 ∨ k = 5 ∨ k = 6 := by omega
  rcases c with c | c | c | c | c | c | c <;> subst c <;> exact ⟨by decide, by decide, by decide, by decide⟩
theorem q_for2 {ta : TA} {j0 : Nat} {k : Nat} (hk : k < 7) (h : EvA ta σ H [.int 0, .int ((2 * k : Nat) : Int), .int 2]) (Pv : Nat → L2.St → Hp → Prop) (h0 : ∀ H1, Ex H H1 → Pv 0 σ H1)
    (hs : ∀ (i : Nat) σ' H', i < k → Pv i σ' H' → tu { D with nx := Pv (i + 1), ct := Pv (i + 1), bk := tz D } (σ'.set j0 (some (.int ((2 * i : Nat) : Int)))) H') (hd : ∀ σ' H', Pv k σ' H' → tz D σ' H') : tSeq (tFor (iRng3 ta) (gName j0) tu) tz D σ H :=
  h H (Ex.refl H) _ fun H1 e => ⟨0, _, 2, k, rfl, rg2 k hk, for_rangeC (D := { D with nx := tz D }) Pv (h0 H1 e) (fun i σ' H' hi p => by
    have e0 : (0 : Int) + (i : Nat) * 2 = ((2 * i : Nat) : Int) := by omega
    show tu { D with nx := Pv (i + 1), ct := Pv (i + 1), bk := tz D } (σ'.set j0 (some (.int ((0 : Int) + (i : Nat) * 2)))) H'
    rw [e0]
    exact hs i σ' H' hi p) hd⟩
/-! comprehensions -/
theorem given_map {α : Type} (l : List α) (z : α) (p : α → Bool) (g : α → V) : given l.length (fun i => p (l.getD i z)) (fun i => g (l.getD i z)) = (l.filter p).map g := by
  unfold given
  have e : l = (List.range l.length).map fun i => l.getD i z := by
    apply List.ext_getElem?
    intro i
    by_cases h : i < l.length
    · rw [List.getElem?_map, List.getElem?_range h]
      show l[i]? = some (l.getD i z)
      rw [List.getD_eq_getElem?_getD, List.getElem?_eq_getElem h]
      rfl
    · rw [List.getElem?_eq_none (by omega), List.getElem?_eq_none (by simp; omega)]
  conv => rhs; rw [e]
  rw [List.filter_map, List.map_map]
  rfl
theorem getD_of {α : Type} {l : List α} {z x : α} {i : Nat} (h : l[i]? = some x) : l.getD i z = x := by
  rw [List.getD_eq_getElem?_getD, h]
  rfl
/-- over a list of values that stand for things -/
theorem el_lcM {α : Type} {a : Addr} {l : List α} {F : α → V} {tl : TE} {j : Nat} {vs : List Nat} (z : α) (p : α → Bool) (g : α → V) (h : Ev tl σ H (.ref a)) (hx : SqL K H a (l.map F)) (hz : l.length ≤ 40000) (hw : ∀ x, wipe ((wipe σ vs).set j (some x)) vs = wipe σ vs)
    (ht : ∀ (x : α) (i : Nat) H1, Ex H H1 → l[i]? = some x → EvT t ((wipe σ vs).set j (some (F x))) H1 (p x)) (he : ∀ (x : α) (i : Nat) H1, Ex H H1 → l[i]? = some x → p x = true → Ev te ((wipe σ vs).set j (some (F x))) H1 (g x)) :
    EvL (tLc (iList K tl) (gName j) t te vs) σ H ((l.filter p).map g) := by
  have hm : ∀ (i : Nat) (x : V), (l.map F)[i]? = some x → ∃ y, l[i]? = some y ∧ x = F y := fun i x e => by
    rw [List.getElem?_map] at e
    cases q : l[i]? with
    | none => rw [q] at e; cases e
    | some y => rw [q] at e; exact ⟨y, rfl, (Option.some.inj e).symm⟩
  have := el_lcL (K := K) (tl := tl) (j := j) (vs := vs) (t := t) (te := te) (fun i => p (l.getD i z)) (fun i => g (l.getD i z)) h hx (by rw [List.length_map]; exact hz) hw
    (fun i x H1 e hi => by
      obtain ⟨y, hy, rfl⟩ := hm i x hi
      show EvT _ _ _ (p (l.getD i z))
      rw [getD_of hy]
      exact ht y i H1 e hy)
    (fun i x H1 e hi hp => by
      obtain ⟨y, hy, rfl⟩ := hm i x hi
      rw [getD_of hy] at hp
      show Ev _ _ _ (g (l.getD i z))
      rw [getD_of hy]
      exact he y i H1 e hy hp)
  rw [List.length_map, given_map] at this
  exact this
/-- over a new list -/
theorem el_lcN {α : Type} {l : List α} {F : α → V} {tl : TE} {j : Nat} {vs : List Nat} (z : α) (p : α → Bool) (g : α → V) (h : EvX tl σ H (l.map F)) (hz : l.length ≤ 40000) (hw : ∀ x, wipe ((wipe σ vs).set j (some x)) vs = wipe σ vs)
    (ht : ∀ (x : α) (i : Nat) H1, Ex H H1 → l[i]? = some x → EvT t ((wipe σ vs).set j (some (F x))) H1 (p x)) (he : ∀ (x : α) (i : Nat) H1, Ex H H1 → l[i]? = some x → p x = true → Ev te ((wipe σ vs).set j (some (F x))) H1 (g x)) :
    EvL (tLc (iList K tl) (gName j) t te vs) σ H ((l.filter p).map g) := fun H1 e Q q => h H1 e _ fun a H2 e2 ha => by
  have := el_lcM (K := K) (tl := tC (.ref a)) (F := F) (H := H2) (σ := σ) (j := j) (vs := vs) (t := t) (te := te) z p g ev_c (SqL.of ha) hz hw (fun x i H3 e3 hi => ht x i H3 ((e.trans e2).trans e3) hi) (fun x i H3 e3 hi hp => he x i H3 ((e.trans e2).trans e3) hi hp)
  exact this H2 (Ex.refl H2) Q fun p' H3 hp' e3 h3 => q p' H3 (fresh_back e2 hp') (e2.trans e3) h3
theorem tup_inj {a : Addr} {xs : List V} (h : SqT K H a xs) : True := trivial
/-- over a tuple -/
theorem el_lcT {α : Type} {a : Addr} {l : List α} {F : α → V} {tl : TE} {j : Nat} {vs : List Nat} (z : α) (p : α → Bool) (g : α → V) (h : Ev tl σ H (.ref a)) (hx : ∀ H1, SqT K H1 a (l.map F)) (hz : l.length ≤ 40000) (hw : ∀ x, wipe ((wipe σ vs).set j (some x)) vs = wipe σ vs)
    (ht : ∀ (x : α) (i : Nat) H1, Ex H H1 → l[i]? = some x → EvT t ((wipe σ vs).set j (some (F x))) H1 (p x)) (he : ∀ (x : α) (i : Nat) H1, Ex H H1 → l[i]? = some x → p x = true → Ev te ((wipe σ vs).set j (some (F x))) H1 (g x)) :
    EvL (tLc (iTup K tl) (gName j) t te vs) σ H ((l.filter p).map g) := fun H0 e Q q => h H0 e _ fun H1 e1 => ⟨a, rfl, ⟨_, hx H1⟩, fun Dl hD => by
  have hm : ∀ (i : Nat) (x : V), (l.map F)[i]? = some x → ∃ y, l[i]? = some y ∧ x = F y := fun i x e => by
    rw [List.getElem?_map] at e
    cases q : l[i]? with
    | none => rw [q] at e; cases e
    | some y => rw [q] at e; exact ⟨y, rfl, (Option.some.inj e).symm⟩
  refine lc_tup (xs := l.map F) (Cw H1 (fun i => p (l.getD i z)) (fun i => g (l.getD i z)) Dl) ⟨hD, Ex.new hD, upd_same⟩ (fun i H' _ c => hx H') (fun i x H' hi c => ?_) fun H' c => ?_
  · obtain ⟨y, hy, rfl⟩ := hm i x hi
    have hl : i < l.length := (List.getElem?_eq_some_iff.mp hy).1
    refine ⟨hw _, cw_turn c (by omega) ?_ fun hf => ?_⟩
    · show EvT _ _ _ (p (l.getD i z))
      rw [getD_of hy]
      exact ht y i H1 (e.trans e1) hy
    · have hp : p (l.getD i z) = true := hf
      rw [getD_of hy] at hp
      show Ev _ _ _ (g (l.getD i z))
      rw [getD_of hy]
      exact he y i H1 (e.trans e1) hy hp
  · obtain ⟨c1, c2, c3⟩ := c
    rw [List.length_map, given_map] at c3
    exact q Dl H' (fresh_back e1 c1) (e1.trans c2) c3⟩
/-- over a text, its signs -/
theorem lc_str {w : Str} {g : TG} {tt : TT} {te : TE} {vs : List Nat} {σ : L2.St} {H1 : Hp} {D : Addr} {Qd : Hp → Prop} (Pv : Nat → Hp → Prop) (h0 : Pv 0 (upd H1 D (.lst [])))
    (hs : ∀ i c H, w.cps[i]? = some c → Pv i H → g (.str ⟨#[c]⟩) (wipe σ vs) H fun σ2 H2 => wipe σ2 vs = wipe σ vs ∧ tt σ2 H2 fun b H3 =>
      if b = true then te σ2 H3 fun y H4 => ∃ acc, H4 D = some (.lst acc) ∧ acc.length < sizeLine ∧ Pv (i + 1) (upd H4 D (.lst (acc ++ [y]))) else Pv (i + 1) H3) (hd : ∀ H, Pv w.cps.size H → Qd H) :
    ∃ W : Nat → Nat → Hp → Prop, (∃ m, W 0 m (upd H1 D (.lst []))) ∧ ∀ i m H, W i m H →
      ((Its w).stop i H ∧ Qd H) ∨ ((Its w).go i H ∧ ∃ Nx : Hp → Prop, (∀ H', Nx H' → ∃ m', m' < m ∧ W (i + 1) m' H') ∧ ∀ x H', (Its w).yld i H x H' → g x (wipe σ vs) H' fun σ2 H2 => wipe σ2 vs = wipe σ vs ∧ tt σ2 H2 fun b H3 =>
        if b = true then te σ2 H3 fun y H4 => ∃ acc, H4 D = some (.lst acc) ∧ acc.length < sizeLine ∧ Nx (upd H4 D (.lst (acc ++ [y]))) else Nx H3) := by
  refine ⟨fun i m H => m = w.cps.size - i ∧ i ≤ w.cps.size ∧ Pv i H, ⟨w.cps.size, by simp, Nat.zero_le _, h0⟩, ?_⟩
  rintro i m H ⟨rfl, hi, p⟩
  by_cases hlt : i < w.cps.size
  · refine .inr ⟨hlt, Pv (i + 1), fun H' p' => ⟨w.cps.size - (i + 1), by omega, rfl, hlt, p'⟩, fun x H' y => ?_⟩
    obtain ⟨rfl, c, hc, rfl⟩ := y
    exact hs i c _ hc p
  · have e : i = w.cps.size := by omega
    subst e
    exact .inl ⟨Nat.le_refl _, hd H p⟩
/-- [ord(c) for c in text] -/
theorem el_lcS {w : Str} {tl : TE} {j : Nat} {vs : List Nat} (h : Ev tl σ H (.str w)) (hz : w.cps.size ≤ 40000) (hw : ∀ x, wipe ((wipe σ vs).set j (some x)) vs = wipe σ vs)
    (he : ∀ (c : Nat) H1, Ex H H1 → Ev te ((wipe σ vs).set j (some (.str ⟨#[c]⟩))) H1 (.int (c : Int))) :
    EvL (tLc (iStr tl) (gName j) tYes te vs) σ H (bys w.cps.toList) := fun H0 e Q q => h H0 e _ fun H1 e1 => ⟨w, rfl, fun Dl hD => by
  refine lc_str (Cw H1 (fun _ => true) (fun i => V.int ((w.cps.toList.getD i 0 : Nat) : Int)) Dl) ⟨hD, Ex.new hD, upd_same⟩ (fun i c H' hi p => ?_) fun H' c => ?_
  · have hl : i < w.cps.size := (Array.getElem?_eq_some_iff.mp hi).1
    have hg : w.cps.toList.getD i 0 = c := by
      refine getD_of ?_
      rw [Array.getElem?_toList]
      exact hi
    refine ⟨hw _, cw_turn p (by omega) (fun H2 _ Q q => q H2 (Ex.refl H2)) fun _ => ?_⟩
    show Ev _ _ _ (V.int ((w.cps.toList.getD i 0 : Nat) : Int))
    rw [hg]
    exact he c H1 (e.trans e1)
  · obtain ⟨c1, c2, c3⟩ := c
    have e2 : given w.cps.size (fun _ => true) (fun i => V.int ((w.cps.toList.getD i 0 : Nat) : Int)) = bys w.cps.toList := by
      have := given_map w.cps.toList 0 (fun _ => true) (fun n => V.int ((n : Nat) : Int))
      rw [List.filter_eq_self.mpr (fun _ _ => rfl), Array.length_toList] at this
      exact this
    rw [e2] at c3
    exact q Dl H' (fresh_back e1 c1) (e1.trans c2) c3⟩
theorem et_yes : EvT tYes σ H true := fun H1 _ _ q => q H1 (Ex.refl H1)
end
end Eh

-- EhW1
set_option Elab.async false
set_option linter.all false
set_option maxRecDepth 100000
set_option maxHeartbeats 4000000
namespace Eh
open PySem PySem.Spec PyProof.Rows L2 EhR EhZ Evl
/-! ### lists of objects -/
section
variable {α : Type} {A : Ads} {H : Hp} {C : Addr} {F : α → List (Str × V)} {as : List Addr} {xs : List α}
theorem zip_fst : ∀ {as : List Addr} {xs : List α}, as.length = xs.length → (as.zip xs).map (fun p => p.1) = as
  | [], [], _ => rfl
  | a :: as, x :: xs, h => by
    show a :: (as.zip xs).map _ = _
    rw [zip_fst (by simpa using h)]
  | [], _ :: _, h => by simp at h
  | _ :: _, [], h => by simp at h
theorem zip_snd : ∀ {as : List Addr} {xs : List α}, as.length = xs.length → (as.zip xs).map (fun p => p.2) = xs
  | [], [], _ => rfl
  | a :: as, x :: xs, h => by
    show x :: (as.zip xs).map _ = _
    rw [zip_snd (by simpa using h)]
  | [], _ :: _, h => by simp at h
  | _ :: _, [], h => by simp at h
theorem zip_refs (h : as.length = xs.length) : refs as = (as.zip xs).map fun p => V.ref p.1 := by
  unfold refs
  conv => lhs; rw [← zip_fst h]
  rw [List.map_map]
  rfl
theorem zip_filter (h : as.length = xs.length) (p : α → Bool) : ((as.zip xs).filter fun q => p q.2).map (fun q => q.2) = xs.filter p := by
  conv => rhs; rw [← zip_snd h]
  rw [List.filter_map]
  rfl
theorem zip_map {β : Type} (h : as.length = xs.length) (g : α → β) : (as.zip xs).map (fun q => g q.2) = xs.map g := by
  conv => rhs; rw [← zip_snd h]
  rw [List.map_map]
  rfl
theorem zip_get {i : Nat} {p : Addr × α} (h : (as.zip xs)[i]? = some p) : as[i]? = some p.1 ∧ xs[i]? = some p.2 := by
  have := List.getElem?_zip_eq_some.mp h
  exact this
theorem Objs.zip (h : Objs H C F as xs) {i : Nat} {p : Addr × α} (e : (as.zip xs)[i]? = some p) : At H p.1 C (F p.2) := h.ob i p.1 p.2 (zip_get e).1 (zip_get e).2
theorem filter_all {β : Type} (l : List β) : l.filter (fun _ => true) = l := List.filter_eq_self.mpr fun _ _ => rfl
end
theorem find_at {m : M} {n : Int} {i : Nat} (hi : i < m.schools.length) (he : (m.sch i).number = n) (hb : ∀ j, j < i → (m.sch j).number ≠ n) : m.find n = some i := by
  have sg : ∀ j (h : j < m.schools.length), m.schools[j] = m.sch j := fun j h => by
    unfold M.sch
    rw [List.getD_eq_getElem?_getD, List.getElem?_eq_getElem h]
    rfl
  unfold M.find
  rw [List.findIdx?_eq_some_iff_getElem]
  refine ⟨hi, ?_, fun j hj => ?_⟩
  · rw [sg i hi, he]
    exact beq_self_eq_true n
  · rw [sg j (by omega)]
    intro z
    exact hb j hj (eq_of_beq z)
theorem find_none {m : M} {n : Int} (hb : ∀ j, j < m.schools.length → (m.sch j).number ≠ n) : m.find n = none := by
  unfold M.find
  rw [List.findIdx?_eq_none_iff]
  intro s hs
  obtain ⟨i, hi, e⟩ := List.mem_iff_getElem.mp hs
  have : m.sch i = s := by
    unfold M.sch
    rw [List.getD_eq_getElem?_getD, List.getElem?_eq_getElem hi]
    exact e
  rw [← this]
  exact beq_eq_false_iff_ne.mpr (hb i hi)
theorem findO_at {m : M} {n : Int} {i : Nat} (hi : i < m.offers.length) (he : (m.off i).number = n) (hb : ∀ j, j < i → (m.off j).number ≠ n) : m.findO n = some i := by
  have sg : ∀ j (h : j < m.offers.length), m.offers[j] = m.off j := fun j h => by
    unfold M.off
    rw [List.getD_eq_getElem?_getD, List.getElem?_eq_getElem h]
    rfl
  unfold M.findO
  rw [List.findIdx?_eq_some_iff_getElem]
  refine ⟨hi, ?_, fun j hj => ?_⟩
  · rw [sg i hi, he]
    exact beq_self_eq_true n
  · rw [sg j (by omega)]
    intro z
    exact hb j hj (eq_of_beq z)
theorem findO_none {m : M} {n : Int} (hb : ∀ j, j < m.offers.length → (m.off j).number ≠ n) : m.findO n = none := by
  unfold M.findO
  rw [List.findIdx?_eq_none_iff]
  intro s hs
  obtain ⟨i, hi, e⟩ := List.mem_iff_getElem.mp hs
  have : m.off i = s := by
    unfold M.off
    rw [List.getD_eq_getElem?_getD, List.getElem?_eq_getElem hi]
    exact e
  rw [← this]
  exact beq_eq_false_iff_ne.mpr (hb i hi)
theorem fol_step (cap : Int) (ss : List MS) (loads : List Int) (f : Int) (k : Nat) (h : -1 ≤ f ∧ f < (k : Int)) : -1 ≤ folStep cap ss loads f k ∧ folStep cap ss loads f k < ((k + 1 : Nat) : Int) := by
  unfold folStep
  split <;> omega
theorem fol_bound (cap : Int) (ss : List MS) (loads : List Int) : ∀ k : Nat, -1 ≤ (List.range k).foldl (folStep cap ss loads) (-1) ∧ (List.range k).foldl (folStep cap ss loads) (-1) < (k : Int)
  | 0 => by
    show -1 ≤ (-1 : Int) ∧ (-1 : Int) < ((0 : Nat) : Int)
    omega
  | k + 1 => by
    have ih := fol_bound cap ss loads k
    rw [List.range_succ, List.foldl_append]
    exact fol_step cap ss loads _ k ih
theorem following_lt (cap : Int) (ss : List MS) (loads : List Int) : following cap ss loads < (ss.length : Int) := (fol_bound cap ss loads ss.length).2
section
variable {P : Program} {w : World} {K : PySem.W.Frag} {mg : Str → Option Value} {base : Heap} {A : Ads}
/-! ### schools.py: what only reads -/
def sp_Sc_account (K : PySem.W.Frag) (A : Ads) : Sp := fun vs H Q _ => ∃ (a : Addr) (s : MS), vs = [.ref a] ∧ At H a A.Sc (msF s) ∧ RetV (.int s.account) H Q
theorem ok_Sc_account (X : Tx K mg A) : Okd P w K mg base CX0 1 A.Sc_account ["self"] (sp_Sc_account K A) := by
  obtain ⟨fd, F⟩ := X.fn_Sc_account
  refine ⟨fd, F.ok sc_Sc_account (fun vs H Q E h => ?_) (fun cdv A' outer s H vs Q E hr h => ⟨_, (pss_one (ps_ret (pe_op op_sub (pe_op op_sub (pe_op op_sub (pe_op op_add (pe_fld (pv 0) rfl) (pe_fld (pv 0) rfl)) (pe_fld (pv 0) rfl)) (pe_fld (pv 0) rfl)) (pe_fld (pv 0) rfl)))), ?_⟩), F.binds fun _ _ _ _ _ _ us hl => match us, hl with | [_], _ => rfl⟩
  · obtain ⟨_, _, rfl, _⟩ := h
    rfl
  · obtain ⟨a, s, rfl, h, k⟩ := h
    exact s_ret (ev_i0 (ev_i0 (ev_i0 (ev_i0 (ev_Sc_paid X h (ev_var rfl)) (ev_Sc_given X h (ev_var rfl))) (ev_Sc_fees X h (ev_var rfl))) (ev_Sc_fines X h (ev_var rfl))) (ev_Sc_out X h (ev_var rfl))) k
def sp_Sc_money (K : PySem.W.Frag) (A : Ads) : Sp := fun vs H Q _ => ∃ (a : Addr) (s : MS), vs = [.ref a] ∧ At H a A.Sc (msF s) ∧ RetL (iV s.money) H Q
theorem ok_Sc_money (X : Tx K mg A) : Okd P w K mg base CX0 1 A.Sc_money ["self"] (sp_Sc_money K A) := by
  obtain ⟨fd, F⟩ := X.fn_Sc_money
  refine ⟨fd, F.ok sc_Sc_money (fun vs H Q E h => ?_) (fun cdv A' outer s H vs Q E hr h => ⟨_, (pss_one (ps_ret (pe_lst (pa_cons (pe_fld (pv 0) rfl) (pa_cons (pe_fld (pv 0) rfl) (pa_cons (pe_fld (pv 0) rfl) (pa_cons (pe_fld (pv 0) rfl) (pa_cons (pe_fld (pv 0) rfl) pa_nil)))))))), ?_⟩), F.binds fun _ _ _ _ _ _ us hl => match us, hl with | [_], _ => rfl⟩
  · obtain ⟨_, _, rfl, _⟩ := h
    rfl
  · obtain ⟨a, s, rfl, h, k⟩ := h
    exact s_retL (el_lst (ea_cons (ev_Sc_paid X h (ev_var rfl)) (ea_cons (ev_Sc_fees X h (ev_var rfl)) (ea_cons (ev_Sc_given X h (ev_var rfl)) (ea_cons (ev_Sc_fines X h (ev_var rfl)) (ea_cons (ev_Sc_out X h (ev_var rfl)) ea_nil))))) (by show 5 ≤ 100000; decide)) k
def sp_St_waits (K : PySem.W.Frag) (A : Ads) : Sp := fun vs H Q _ => ∃ (L : Lay) (m : M) (a : Addr) (s : MS) (l : Int), vs = [.ref L.st, .ref a, .int l] ∧ StAt A H L m ∧ At H a A.Sc (msF s) ∧ RetV (.bl (waitsM m.rules.cap s l)) H Q
theorem ok_St_waits (X : Tx K mg A) : Okd P w K mg base CX0 1 A.St_waits ["self", "school", "load"] (sp_St_waits K A) := by
  obtain ⟨fd, F⟩ := X.fn_St_waits
  refine ⟨fd, F.ok sc_St_waits (fun vs H Q E h => ?_) (fun cdv A' outer s H vs Q E hr h => ⟨_, (pss_one (ps_ret (pe_and (pe_cmpR op_lt (pv 2) (pe_fld (pv 1) rfl) (nomark _)) (pe_one (pe_cmpR op_lt (pv 2) (pe_ix ix_list (pe_fld (pe_fld (pv 0) rfl) rfl) pe_int (fun _ _ => rfl)) (nomark _)))))), ?_⟩), F.binds fun _ _ _ _ _ _ us hl => match us, hl with | [_, _, _], _ => rfl⟩
  · obtain ⟨_, _, _, _, _, rfl, _⟩ := h
    rfl
  · obtain ⟨L, m, a, s, l, rfl, h, hs, k⟩ := h
    exact s_ret (ev_andV (ev_i0 (ev_var rfl) (ev_Sc_wanted X hs (ev_var rfl))) fun _ => ev_i0 (ev_var rfl) (ev_ix0 (ev_Ru_cap X h.bd.ru.ob (ev_St_rules X h.st (ev_var rfl))) h.bd.ru.cap)) k
def sp_St_school_at (K : PySem.W.Frag) (A : Ads) : Sp := fun vs H Q _ => ∃ (L : Lay) (m : M) (n : Int), vs = [.ref L.st, .int n] ∧ StAt A H L m ∧ RetV (match m.find n with | none => .non | some i => .ref (L.ss.getD i 0)) H Q
theorem ok_St_school_at (X : Tx K mg A) : Okd P w K mg base CX0 1 A.St_school_at ["self", "number"] (sp_St_school_at K A) := by
  obtain ⟨fd, F⟩ := X.fn_St_school_at
  refine ⟨fd, F.ok sc_St_school_at (fun vs H Q E h => ?_) (fun cdv A' outer s H vs Q E hr h => ⟨_, (pss_cons (ps_for (PassesOwn.never) rfl (pi_list (pe_fld (pv 0) rfl)) (pg_name (i := 2) sc_St_school_at.nd rfl (Or.inl rfl))
      (pss_one (ps_if (pt_cmpR op_eq (pe_fld (pv 2) rfl) (pv 1) (nomark _))
        (pss_one (ps_ret (pv 2)))
        pss_nil)))
    (pss_one (ps_ret pe_non))), ?_⟩), F.binds fun _ _ _ _ _ _ us hl => match us, hl with | [_, _], _ => rfl⟩
  · obtain ⟨_, _, _, rfl, _⟩ := h
    rfl
  · obtain ⟨L, m, n, rfl, h, k⟩ := h
    refine q_forLn (ev_St_schools X h.st (ev_var rfl)) (SqL.of h.bd.sl) (fun i σ' H' => (∃ v, σ' = [some (.ref L.st), some (.int n), v]) ∧ Ex H H' ∧ ∀ j, j < i → (m.sch j).number ≠ n) (fun H1 e => ⟨⟨_, rfl⟩, e, fun j hj => absurd hj (Nat.not_lt_zero _)⟩) (fun i σ' H' _ p => SqL.of (p.2.1 _ _ h.bd.sl)) (fun i x σ' H' hx p => ?_) fun σ' H' p => ?_
    · obtain ⟨⟨v, rfl⟩, e, hb⟩ := p
      obtain ⟨a, ha, rfl⟩ : ∃ a, L.ss[i]? = some a ∧ x = V.ref a := by
        have hx' : (L.ss.map V.ref)[i]? = some x := hx
        rw [List.getElem?_map] at hx'
        cases q : L.ss[i]? with
        | none => rw [q] at hx'; cases hx'
        | some a => rw [q] at hx'; exact ⟨a, rfl, (Option.some.inj hx').symm⟩
      have hi : i < m.schools.length := by rw [← h.bd.ss.len]; exact (List.getElem?_eq_some_iff.mp ha).1
      have hs := (h.bd.ss.ob i a (m.sch i) ha (by unfold M.sch; rw [List.getD_eq_getElem?_getD, List.getElem?_eq_getElem hi]; rfl)).ex e
      refine s_when (et_test (ev_eqI (ev_Sc_number X hs (ev_var rfl)) (ev_var rfl))) (fun hq H1 e1 => ?_) (fun hq H1 e1 => ?_)
      · have hf := find_at hi (of_decide_eq_true hq) hb
        rw [hf] at k
        have : L.ss.getD i 0 = a := getD_of ha
        have k' : RetV (.ref (L.ss.getD i 0)) H Q := k
        rw [this] at k'
        exact s_ret (ev_var rfl) fun H2 e2 => k' H2 ((e.trans e1).trans e2)
      · refine ⟨⟨_, rfl⟩, e.trans e1, fun j hj => ?_⟩
        by_cases c : j = i
        · subst c; exact of_decide_eq_false hq
        · exact hb j (by omega)
    · obtain ⟨⟨v, rfl⟩, e, hb⟩ := p
      rw [find_none (fun j hj => hb j (by unfold refs; rw [List.length_map, h.bd.ss.len]; exact hj))] at k
      exact s_ret ev_c fun H2 e2 => k H2 (e.trans e2)
def sp_St_offer_at (K : PySem.W.Frag) (A : Ads) : Sp := fun vs H Q _ => ∃ (L : Lay) (m : M) (n : Int), vs = [.ref L.st, .int n] ∧ StAt A H L m ∧ RetV (match m.findO n with | none => .non | some i => .ref (L.os.getD i 0)) H Q
theorem ok_St_offer_at (X : Tx K mg A) : Okd P w K mg base CX0 1 A.St_offer_at ["self", "number"] (sp_St_offer_at K A) := by
  obtain ⟨fd, F⟩ := X.fn_St_offer_at
  refine ⟨fd, F.ok sc_St_offer_at (fun vs H Q E h => ?_) (fun cdv A' outer s H vs Q E hr h => ⟨_, (pss_cons (ps_for (PassesOwn.never) rfl (pi_list (pe_fld (pv 0) rfl)) (pg_name (i := 2) sc_St_offer_at.nd rfl (Or.inl rfl))
      (pss_one (ps_if (pt_cmpR op_eq (pe_fld (pv 2) rfl) (pv 1) (nomark _))
        (pss_one (ps_ret (pv 2)))
        pss_nil)))
    (pss_one (ps_ret pe_non))), ?_⟩), F.binds fun _ _ _ _ _ _ us hl => match us, hl with | [_, _], _ => rfl⟩
  · obtain ⟨_, _, _, rfl, _⟩ := h
    rfl
  · obtain ⟨L, m, n, rfl, h, k⟩ := h
    refine q_forLn (ev_St_offers X h.st (ev_var rfl)) (SqL.of h.bd.ol) (fun i σ' H' => (∃ v, σ' = [some (.ref L.st), some (.int n), v]) ∧ Ex H H' ∧ ∀ j, j < i → (m.off j).number ≠ n) (fun H1 e => ⟨⟨_, rfl⟩, e, fun j hj => absurd hj (Nat.not_lt_zero _)⟩) (fun i σ' H' _ p => SqL.of (p.2.1 _ _ h.bd.ol)) (fun i x σ' H' hx p => ?_) fun σ' H' p => ?_
    · obtain ⟨⟨v, rfl⟩, e, hb⟩ := p
      obtain ⟨a, ha, rfl⟩ : ∃ a, L.os[i]? = some a ∧ x = V.ref a := by
        have hx' : (L.os.map V.ref)[i]? = some x := hx
        rw [List.getElem?_map] at hx'
        cases q : L.os[i]? with
        | none => rw [q] at hx'; cases hx'
        | some a => rw [q] at hx'; exact ⟨a, rfl, (Option.some.inj hx').symm⟩
      have hi : i < m.offers.length := by rw [← h.bd.os.len]; exact (List.getElem?_eq_some_iff.mp ha).1
      have hs := (h.bd.os.ob i a (m.off i) ha (by unfold M.off; rw [List.getD_eq_getElem?_getD, List.getElem?_eq_getElem hi]; rfl)).ex e
      refine s_when (et_test (ev_eqI (ev_Of_number X hs (ev_var rfl)) (ev_var rfl))) (fun hq H1 e1 => ?_) (fun hq H1 e1 => ?_)
      · have hf := findO_at hi (of_decide_eq_true hq) hb
        rw [hf] at k
        have : L.os.getD i 0 = a := getD_of ha
        have k' : RetV (.ref (L.os.getD i 0)) H Q := k
        rw [this] at k'
        exact s_ret (ev_var rfl) fun H2 e2 => k' H2 ((e.trans e1).trans e2)
      · refine ⟨⟨_, rfl⟩, e.trans e1, fun j hj => ?_⟩
        by_cases c : j = i
        · subst c; exact of_decide_eq_false hq
        · exact hb j (by omega)
    · obtain ⟨⟨v, rfl⟩, e, hb⟩ := p
      rw [findO_none (fun j hj => hb j (by unfold refs; rw [List.length_map, h.bd.os.len]; exact hj))] at k
      exact s_ret ev_c fun H2 e2 => k H2 (e.trans e2)
def sp_St_standing (K : PySem.W.Frag) (A : Ads) : Sp := fun vs H Q _ => ∃ (L : Lay) (m : M) (a : Addr) (s : MS), vs = [.ref L.st, .ref a] ∧ StAt A H L m ∧ m.offers.length ≤ 60 ∧ At H a A.Sc (msF s) ∧ RetV (.int (m.standing s.number)) H Q
theorem ok_St_standing (X : Tx K mg A) : Okd P w K mg base CX0 1 A.St_standing ["self", "school"] (sp_St_standing K A) := by
  obtain ⟨fd, F⟩ := X.fn_St_standing
  refine ⟨fd, F.ok sc_St_standing (fun vs H Q E h => ?_) (fun cdv A' outer s H vs Q E hr h => ⟨_, (pss_one (ps_ret (pe_callB call_len_seq (by rfl) X.b_len PySem.boot_len (pa_cons (pe_lc (own := [("offer", 2)]) (g := gName 2) (tt := (tTest (tOp rEq (tFld K (tVar 2) "school") (tFld K (tVar 1) "number")))) rfl sc_St_standing.nd (pi_list (pe_fld (pv 0) rfl)) (blkOk_by (N := ["self", "school", "offer"]) (sc := defScope s_St_standing) (own := [("offer", 2)]) (by decide +kernel)) (fun _ _ _ _ _ => pg_name (i := 2) sc_St_standing.nd rfl (.inl rfl)) (fun _ _ _ _ _ => (pts_one (pt_cmpR op_eq (pe_fld (pv 2) rfl) (pe_fld (pv 1) rfl) (nomark _)))) (fun _ _ _ _ _ => (pv 2))) pa_nil)))), ?_⟩), F.binds fun _ _ _ _ _ _ us hl => match us, hl with | [_, _], _ => rfl⟩
  · obtain ⟨_, _, _, _, rfl, _⟩ := h
    rfl
  · obtain ⟨L, m, a, s, rfl, h, hz, hs, k⟩ := h
    have hl := h.bd.os.len
    have hx : SqL K H L.ol ((L.os.zip m.offers).map fun p => V.ref p.1) := by rw [← zip_refs hl]; exact SqL.of h.bd.ol
    have ev := ev_lenX (K := K) (x_of_L (el_lcM (K := K) (tl := tFld K (tVar 0) "offers") (t := tTest (tOp rEq (tFld K (tVar 2) "school") (tFld K (tVar 1) "number"))) (te := tVar 2) (σ := start ["self", "school", "offer"] [.ref L.st, .ref a]) (j := 2) (vs := [2]) (0, MO.zero) (fun p => p.2.school == s.number) (fun p => V.ref p.1) (ev_St_offers X h.st (ev_var rfl)) hx (by rw [List.length_zip, hl]; omega) (fun _ => rfl)
      (fun p i H1 e hp => et_is (et_test (ev_eqI (ev_Of_school X ((h.bd.os.zip hp).ex e) (ev_var rfl)) (ev_Sc_number X (hs.ex e) (ev_var rfl)))) (by rw [Bool.beq_eq_decide_eq])) (fun p i H1 e hp _ => ev_var rfl)))
    rw [List.length_map] at ev
    have e2 : ((L.os.zip m.offers).filter fun p => p.2.school == s.number).length = (m.offers.filter fun o => o.school == s.number).length := by
      rw [← zip_filter hl, List.length_map]
    rw [e2] at ev
    exact s_ret ev k
def sp_St_load (K : PySem.W.Frag) (A : Ads) : Sp := fun vs H Q _ => ∃ (L : Lay) (m : M) (a : Addr) (s : MS), vs = [.ref L.st, .ref a] ∧ StAt A H L m ∧ m.offers.length ≤ 60 ∧ At H a A.Sc (msF s) ∧ RetV (.int (m.loadS s)) H Q
theorem ok_St_load (X : Tx K mg A) : Okd P w K mg base CX0 2 A.St_load ["self", "school"] (sp_St_load K A) := by
  obtain ⟨fd_St_standing, G_St_standing, b_St_standing⟩ := ok_St_standing (P := P) (w := w) (base := base) X
  obtain ⟨fd, F⟩ := X.fn_St_load
  refine ⟨fd, F.ok sc_St_load (fun vs H Q E h => ?_) (fun cdv A' outer s H vs Q E hr h => ⟨_, (pss_one (ps_ret (pe_op op_add (pe_fld (pv 1) rfl) (pe_meth (pv 0) X.cl_St X.m_St_standing G_St_standing (hr.mono (by decide)) b_St_standing .nil pass0 (pa_cons (pv 1) pa_nil))))), ?_⟩), F.binds fun _ _ _ _ _ _ us hl => match us, hl with | [_, _], _ => rfl⟩
  · obtain ⟨_, _, _, _, rfl, _⟩ := h
    rfl
  · obtain ⟨L, m, a, s, rfl, h, hz, hs, k⟩ := h
    exact s_ret (ev_i0 (ev_Sc_has X hs (ev_var rfl)) (ev_meth (ev_var rfl) h.st (no_St_standing _ _) (ea_cons (ev_var rfl) ea_nil) fun H1 e Q' q E' => ⟨L, m, a, s, rfl, h.ex e, hz, hs.ex e, q⟩)) k
def sp_St_loads (K : PySem.W.Frag) (A : Ads) : Sp := fun vs H Q _ => ∃ (L : Lay) (m : M), vs = [.ref L.st] ∧ StAt A H L m ∧ m.offers.length ≤ 60 ∧ m.schools.length ≤ 30 ∧ RetL (iV m.loads) H Q
theorem ok_St_loads (X : Tx K mg A) : Okd P w K mg base CX0 3 A.St_loads ["self"] (sp_St_loads K A) := by
  obtain ⟨fd_St_load, G_St_load, b_St_load⟩ := ok_St_load (P := P) (w := w) (base := base) X
  obtain ⟨fd, F⟩ := X.fn_St_loads
  refine ⟨fd, F.ok sc_St_loads (fun vs H Q E h => ?_) (fun cdv A' outer s H vs Q E hr h => ⟨_, (pss_one (ps_ret (pe_lc (own := [("school", 1)]) (g := gName 1) rfl sc_St_loads.nd (pi_list (pe_fld (pv 0) rfl)) (blkOk_by (N := ["self", "school"]) (sc := defScope s_St_loads) (own := [("school", 1)]) (by decide +kernel)) (fun _ _ _ _ _ => pg_name (i := 1) sc_St_loads.nd rfl (.inl rfl)) (fun _ _ _ _ _ => pts_nil) (fun _ _ _ _ _ => (pe_meth (pv 0) X.cl_St X.m_St_load G_St_load (hr.mono (by decide)) b_St_load .nil pass0 (pa_cons (pv 1) pa_nil)))))), ?_⟩), F.binds fun _ _ _ _ _ _ us hl => match us, hl with | [_], _ => rfl⟩
  · obtain ⟨_, _, rfl, _⟩ := h
    rfl
  · obtain ⟨L, m, rfl, h, hz, hz2, k⟩ := h
    have hl := h.bd.ss.len
    have hx : SqL K H L.sl ((L.ss.zip m.schools).map fun p => V.ref p.1) := by rw [← zip_refs hl]; exact SqL.of h.bd.sl
    have ev := el_lcM (K := K) (tl := tFld K (tVar 0) "schools") (t := tYes) (te := tMeth A.St "load" (sp_St_load K A) [] E0 (tVar 0) (tCons (tVar 1) tNil)) (σ := start ["self", "school"] [.ref L.st]) (j := 1) (vs := [1]) (0, MS.zero) (fun _ => true) (fun p => V.int (m.loadS p.2)) (ev_St_schools X h.st (ev_var rfl)) hx (by rw [List.length_zip, hl]; omega) (fun _ => rfl)
      (fun p i H1 e hp => et_yes) (fun p i H1 e hp _ => ev_meth (ev_var rfl) (h.st.ex e) (no_St_load _ _) (ea_cons (ev_var rfl) ea_nil) fun H2 e2 Q' q E' => ⟨L, m, p.1, p.2, rfl, h.ex (e.trans e2), hz, (h.bd.ss.zip hp).ex (e.trans e2), q⟩)
    rw [filter_all, zip_map hl (fun s => V.int (m.loadS s))] at ev
    have e2 : m.schools.map (fun s => V.int (m.loadS s)) = iV m.loads := by unfold iV M.loads; rw [List.map_map]; rfl
    rw [e2] at ev
    exact s_retL ev k
def sp_St_taken (K : PySem.W.Frag) (A : Ads) : Sp := fun vs H Q _ => ∃ (L : Lay) (m : M), vs = [.ref L.st] ∧ StAt A H L m ∧ m.schools.length ≤ 30 ∧ RetV (.int m.taken) H Q
theorem ok_St_taken (X : Tx K mg A) : Okd P w K mg base CX0 1 A.St_taken ["self"] (sp_St_taken K A) := by
  obtain ⟨fd, F⟩ := X.fn_St_taken
  refine ⟨fd, F.ok sc_St_taken (fun vs H Q E h => ?_) (fun cdv A' outer s H vs Q E hr h => ⟨_, (pss_one (ps_ret (pe_callB (cr_sum rfl) (by rfl) X.b_sum (by decide +kernel) (pa_cons (pe_lc (own := [("school", 1)]) (g := gName 1) (te := (tFld K (tVar 1) "has")) rfl sc_St_taken.nd (pi_list (pe_fld (pv 0) rfl)) (blkOk_by (N := ["self", "school"]) (sc := defScope s_St_taken) (own := [("school", 1)]) (by decide +kernel)) (fun _ _ _ _ _ => pg_name (i := 1) sc_St_taken.nd rfl (.inl rfl)) (fun _ _ _ _ _ => pts_nil) (fun _ _ _ _ _ => (pe_fld (pv 1) rfl))) pa_nil)))), ?_⟩), F.binds fun _ _ _ _ _ _ us hl => match us, hl with | [_], _ => rfl⟩
  · obtain ⟨_, _, rfl, _⟩ := h
    rfl
  · obtain ⟨L, m, rfl, h, hz2, k⟩ := h
    have hl := h.bd.ss.len
    have hx : SqL K H L.sl ((L.ss.zip m.schools).map fun p => V.ref p.1) := by rw [← zip_refs hl]; exact SqL.of h.bd.sl
    have ev := el_lcM (K := K) (tl := tFld K (tVar 0) "schools") (t := tYes) (te := tFld K (tVar 1) "has") (σ := start ["self", "school"] [.ref L.st]) (j := 1) (vs := [1]) (0, MS.zero) (fun _ => true) (fun p => V.int p.2.has) (ev_St_schools X h.st (ev_var rfl)) hx (by rw [List.length_zip, hl]; omega) (fun _ => rfl)
      (fun p i H1 e hp => et_yes) (fun p i H1 e hp _ => ev_Sc_has X ((h.bd.ss.zip hp).ex e) (ev_var rfl))
    rw [filter_all, zip_map hl (fun s : MS => V.int s.has)] at ev
    have e2 : m.schools.map (fun s : MS => V.int s.has) = (m.schools.map MS.has).map V.int := by rw [List.map_map]; rfl
    rw [e2] at ev
    exact s_ret (ev_sumL ev) k
/-! ### rules.py: what a rule says -/
def sp_Ru_owed (K : PySem.W.Frag) (A : Ads) : Sp := fun vs H Q _ => ∃ (ru : Addr) (rl : List Addr) (r : MR) (t : Int), vs = [.ref ru, .int t] ∧ RuAt A H ru rl r ∧ (0 ≤ r.each ∧ r.each ≤ 9) ∧ (1 ≤ r.many ∧ r.many ≤ 9) ∧ RetV (.int (r.owed t)) H Q
theorem ok_Ru_owed (X : Tx K mg A) : Okd P w K mg base CX0 1 A.Ru_owed ["self", "teams"] (sp_Ru_owed K A) := by
  obtain ⟨fd, F⟩ := X.fn_Ru_owed
  refine ⟨fd, F.ok sc_Ru_owed (fun vs H Q E h => ?_) (fun cdv A' outer s H vs Q E hr h => ⟨_, (pss_cons (ps_asg (pe_fld (pv 0) rfl) (pg_lst rfl (pgs_cons (pg_name (i := 2) sc_Ru_owed.nd rfl (Or.inl rfl)) (pgs_cons (pg_name (i := 3) sc_Ru_owed.nd rfl (Or.inl rfl)) pgs_nil))))
    (pss_one (ps_ret (pe_op op_fdiv (pe_op op_sub (pe_op op_add (pe_op op_mul (pv 2) (pv 1)) (pv 3)) pe_int) (pv 3))))), ?_⟩), F.binds fun _ _ _ _ _ _ us hl => match us, hl with | [_, _], _ => rfl⟩
  · obtain ⟨_, _, _, _, rfl, _⟩ := h
    rfl
  · obtain ⟨ru, rl, r, t, rfl, h, h1, h2, k⟩ := h
    refine q_unpack2 (ev_Ru_judges X h.ob (ev_var rfl)) h.judges fun H1 e => ?_
    exact s_ret (ev_iC (ev_i0 (ev_i0 (ev_iC (ev_var rfl) (ev_var rfl) (.inl (by omega))) (ev_var rfl)) ev_c) (ev_var rfl) (show CDiv _ _ from ⟨by omega, by omega⟩)) fun H2 e2 => k H2 (e.trans e2)
def sp_Ru_percent (K : PySem.W.Frag) (A : Ads) : Sp := fun vs H Q _ => ∃ (ru : Addr) (rl : List Addr) (r : MR) (day : Int), vs = [.ref ru, .int day] ∧ RuAt A H ru rl r ∧ (r.back.length ≤ 12 ∧ r.back.length % 2 = 0) ∧ RetV (.int (r.percent day)) H Q
theorem ok_Ru_percent (X : Tx K mg A) : Okd P w K mg base CX0 1 A.Ru_percent ["self", "day"] (sp_Ru_percent K A) := by
  obtain ⟨fd, F⟩ := X.fn_Ru_percent
  refine ⟨fd, F.ok sc_Ru_percent (fun vs H Q E h => ?_) (fun cdv A' outer s H vs Q E hr h => ⟨_, (pss_cons (ps_set (i := 2) sc_Ru_percent.nd rfl (Or.inl rfl) (pe_op op_sub (pe_ix ix_list (pe_fld (pv 0) rfl) pe_int (fun _ _ => rfl)) (pv 1)))
    (pss_cons (ps_for (PassesOwn.never) rfl (pi_range3 (by rfl) X.b_range (pa_cons pe_int (pa_cons (pe_callB call_len_seq (by rfl) X.b_len PySem.boot_len (pa_cons (pe_fld (pv 0) rfl) pa_nil)) (pa_cons pe_int pa_nil)))) (pg_name (i := 3) sc_Ru_percent.nd rfl (Or.inl rfl))
      (pss_one (ps_if (pt_cmpR op_ge (pv 2) (pe_ix ix_list (pe_fld (pv 0) rfl) (pv 3) (fun _ _ => rfl)) (nomark _))
        (pss_one (ps_ret (pe_ix ix_list (pe_fld (pv 0) rfl) (pe_op op_add (pv 3) pe_int) (fun _ _ => rfl))))
        pss_nil)))
    (pss_one (ps_ret pe_int)))), ?_⟩), F.binds fun _ _ _ _ _ _ us hl => match us, hl with | [_, _], _ => rfl⟩
  · obtain ⟨_, _, _, _, rfl, _⟩ := h
    rfl
  · obtain ⟨ru, rl, r, day, rfl, h, ⟨hb1, hb2⟩, k⟩ := h
    refine q_asg (ev_i0 (ev_ix0 (ev_Ru_begin X h.ob (ev_var rfl)) h.begin_) (ev_var rfl)) fun H1 e1 => ?_
    have h1 := h.ex e1
    obtain ⟨n, hn⟩ : ∃ n, r.back.length = 2 * n := ⟨r.back.length / 2, by omega⟩
    have hlen : ((iV r.back).length : Int) = ((2 * n : Nat) : Int) := by unfold iV; rw [List.length_map, hn]
    have drop2 : ∀ (i : Nat), i < n → ∃ a b, r.back[2 * i]? = some a ∧ r.back[2 * i + 1]? = some b ∧ r.back.drop (2 * i) = a :: b :: r.back.drop (2 * (i + 1)) := fun i hi => by
      refine ⟨r.back[2 * i]'(by omega), r.back[2 * i + 1]'(by omega), List.getElem?_eq_getElem _, List.getElem?_eq_getElem _, ?_⟩
      rw [List.drop_eq_getElem_cons (by omega), List.drop_eq_getElem_cons (i := 2 * i + 1) (by omega)]
      rfl
    refine q_for2 (k := n) (by omega) (ea_cons ev_c (ea_cons (ev_is (ev_len (ev_Ru_back X h1.ob (ev_var rfl)) (SqL.of h1.back)) (congrArg V.int hlen)) (ea_cons ev_c ea_nil))) (fun i σ' H' => (∃ v, σ' = [some (.ref ru), some (.int day), some (.int (r.begin_ - day)), v]) ∧ Ex H1 H' ∧ pctOf (r.begin_ - day) r.back = pctOf (r.begin_ - day) (r.back.drop (2 * i))) (fun H2 e2 => ⟨⟨_, rfl⟩, e2, rfl⟩) (fun i σ' H' hi p => ?_) fun σ' H' p => ?_
    · obtain ⟨⟨v, rfl⟩, e2, hp⟩ := p
      have h2 := h1.ex e2
      obtain ⟨a, b, ga, gb, hd⟩ := drop2 i hi
      have ixa : (iV r.back)[((2 * i : Nat) : Int).toNat]? = some (V.int a) := by unfold iV; rw [Int.toNat_natCast, List.getElem?_map, ga]; rfl
      have ixb : (iV r.back)[(((2 * i : Nat) : Int) + 1).toNat]? = some (V.int b) := by
        have : (((2 * i : Nat) : Int) + 1).toNat = 2 * i + 1 := by omega
        unfold iV
        rw [this, List.getElem?_map, gb]; rfl
      rw [hd] at hp
      have hp' : pctOf (r.begin_ - day) r.back = if a ≤ r.begin_ - day then b else pctOf (r.begin_ - day) (r.back.drop (2 * (i + 1))) := hp
      refine s_when (et_test (ev_i0 (ev_var rfl) (ev_ixn (ev_Ru_back X h2.ob (ev_var rfl)) (ev_var rfl) (SqL.of h2.back) (by omega) ixa))) (fun hq H3 e3 => ?_) (fun hq H3 e3 => ?_)
      · rw [if_pos (of_decide_eq_true hq)] at hp'
        have h3 := h2.ex e3
        refine s_ret (ev_ixn (ev_Ru_back X h3.ob (ev_var rfl)) (ev_i0 (ev_var rfl) ev_c) (SqL.of h3.back) (by omega) ixb) fun H4 e4 => ?_
        have k' := k H4 (((e1.trans e2).trans e3).trans e4)
        unfold MR.percent at k'
        rw [hp'] at k'
        exact k'
      · rw [if_neg (of_decide_eq_false hq)] at hp'
        exact ⟨⟨_, rfl⟩, e2.trans e3, hp'⟩
    · obtain ⟨⟨v, rfl⟩, e2, hp⟩ := p
      rw [List.drop_eq_nil_of_le (by omega)] at hp
      refine s_ret ev_c fun H4 e4 => ?_
      have k' := k H4 ((e1.trans e2).trans e4)
      unfold MR.percent at k'
      rw [hp] at k'
      exact k'
theorem pct_small (ahead : Int) : ∀ (l : List Int), (∀ n ∈ l, 0 ≤ n ∧ n ≤ 200) → 0 ≤ pctOf ahead l ∧ pctOf ahead l ≤ 200
  | [], _ => ⟨by show (0 : Int) ≤ 0; decide, by show (0 : Int) ≤ 200; decide⟩
  | [_], _ => ⟨by show (0 : Int) ≤ 0; decide, by show (0 : Int) ≤ 200; decide⟩
  | a :: b :: r, h => by
    have ih := pct_small ahead r fun n hn => h n (by simp [hn])
    have hb := h b (by simp)
    show 0 ≤ (if a ≤ ahead then b else pctOf ahead r) ∧ (if a ≤ ahead then b else pctOf ahead r) ≤ 200
    split
    · exact hb
    · exact ih
def sp_Ru_given_back (K : PySem.W.Frag) (A : Ads) : Sp := fun vs H Q _ => ∃ (ru : Addr) (rl : List Addr) (r : MR) (day : Int), vs = [.ref ru, .int day] ∧ RuAt A H ru rl r ∧ (r.back.length ≤ 12 ∧ r.back.length % 2 = 0 ∧ ∀ n ∈ r.back, 0 ≤ n ∧ n ≤ 200) ∧ RetV (.int (r.givenBack day)) H Q
theorem ok_Ru_given_back (X : Tx K mg A) : Okd P w K mg base CX0 2 A.Ru_given_back ["self", "day"] (sp_Ru_given_back K A) := by
  obtain ⟨fd_Ru_percent, G_Ru_percent, b_Ru_percent⟩ := ok_Ru_percent (P := P) (w := w) (base := base) X
  obtain ⟨fd, F⟩ := X.fn_Ru_given_back
  refine ⟨fd, F.ok sc_Ru_given_back (fun vs H Q E h => ?_) (fun cdv A' outer s H vs Q E hr h => ⟨_, (pss_one (ps_ret (pe_op op_fdiv (pe_op op_mul (pe_meth (pv 0) X.cl_Ru X.m_Ru_percent G_Ru_percent (hr.mono (by decide)) b_Ru_percent .nil pass0 (pa_cons (pv 1) pa_nil)) (pe_ix ix_list (pe_fld (pv 0) rfl) pe_int (fun _ _ => rfl))) pe_int))), ?_⟩), F.binds fun _ _ _ _ _ _ us hl => match us, hl with | [_, _], _ => rfl⟩
  · obtain ⟨_, _, _, _, rfl, _⟩ := h
    rfl
  · obtain ⟨ru, rl, r, day, rfl, h, ⟨hb1, hb2, hb3⟩, k⟩ := h
    have hp : 0 ≤ r.percent day ∧ r.percent day ≤ 200 := pct_small _ _ hb3
    exact s_ret (ev_iC (ev_iC (ev_meth (ev_var rfl) h.ob (no_Ru_percent _) (ea_cons (ev_var rfl) ea_nil) fun H1 e Q' q E' => ⟨ru, rl, r, day, rfl, h.ex e, ⟨hb1, hb2⟩, q⟩) (ev_ix0 (ev_Ru_fee X h.ob (ev_var rfl)) h.fee) (.inl (by omega))) ev_c (show CDiv _ _ from ⟨by decide, by decide⟩)) k
def sp_Ru_rows (K : PySem.W.Frag) (A : Ads) : Sp := fun vs H Q _ => ∃ (ru : Addr) (rl : List Addr) (r : MR), vs = [.ref ru] ∧ RuAt A H ru rl r ∧ RetL (refs rl) H Q
theorem ok_Ru_rows (X : Tx K mg A) : Okd P w K mg base CX0 1 A.Ru_rows ["self"] (sp_Ru_rows K A) := by
  obtain ⟨fd, F⟩ := X.fn_Ru_rows
  refine ⟨fd, F.ok sc_Ru_rows (fun vs H Q E h => ?_) (fun cdv A' outer s H vs Q E hr h => ⟨_, (pss_cons (ps_set (i := 1) sc_Ru_rows.nd rfl (Or.inl rfl) (pe_lst (pa_cons (pe_fld (pv 0) rfl) (pa_cons (pe_fld (pv 0) rfl) (pa_cons (pe_fld (pv 0) rfl) (pa_cons (pe_fld (pv 0) rfl) (pa_cons (pe_fld (pv 0) rfl) (pa_cons (pe_fld (pv 0) rfl) (pa_cons (pe_fld (pv 0) rfl) (pa_cons (pe_fld (pv 0) rfl) pa_nil))))))))))
    (pss_one (ps_ret (pe_op op_cat (pv 1) (pe_lst (pa_cons (pe_fld (pv 0) rfl) pa_nil)))))), ?_⟩), F.binds fun _ _ _ _ _ _ us hl => match us, hl with | [_], _ => rfl⟩
  · obtain ⟨_, _, _, rfl, _⟩ := h
    rfl
  · obtain ⟨ru, rl, r, rfl, h, k⟩ := h
    have hl := h.len
    match rl, hl with
    | [a0, a1, a2, a3, a4, a5, a6, a7, a8], _ =>
      refine q_asgL (el_lst (ea_cons (ev_Ru_places X h.ob (ev_var rfl)) (ea_cons (ev_Ru_form X h.ob (ev_var rfl)) (ea_cons (ev_Ru_cap X h.ob (ev_var rfl)) (ea_cons (ev_Ru_judges X h.ob (ev_var rfl)) (ea_cons (ev_Ru_fee X h.ob (ev_var rfl)) (ea_cons (ev_Ru_fine X h.ob (ev_var rfl)) (ea_cons (ev_Ru_answer X h.ob (ev_var rfl)) (ea_cons (ev_Ru_begin X h.ob (ev_var rfl)) ea_nil)))))))) (by show 8 ≤ 100000; decide)) fun p H1 hp e1 h1 => ?_
      have h2 := h.ex e1
      refine s_retL (el_cat (x_of (ev_var rfl) h1) (x_of_L (el_lst (ea_cons (ev_Ru_back X h2.ob (ev_var rfl)) ea_nil) (by show 1 ≤ 100000; decide))) (by show 8 + 1 ≤ 10000000; decide)) fun q H2 hq e2 hl2 => ?_
      exact k q H2 (fresh_back e1 hq) (e1.trans e2) hl2
def sp_St_missing (K : PySem.W.Frag) (A : Ads) : Sp := fun vs H Q _ => ∃ (L : Lay) (m : M) (a : Addr) (s : MS), vs = [.ref L.st, .ref a] ∧ StAt A H L m ∧ ((0 ≤ m.rules.each ∧ m.rules.each ≤ 9) ∧ (1 ≤ m.rules.many ∧ m.rules.many ≤ 9)) ∧ At H a A.Sc (msF s) ∧ RetV (.int (m.rules.missing s)) H Q
theorem ok_St_missing (X : Tx K mg A) : Okd P w K mg base CX0 2 A.St_missing ["self", "school"] (sp_St_missing K A) := by
  obtain ⟨fd_Ru_owed, G_Ru_owed, b_Ru_owed⟩ := ok_Ru_owed (P := P) (w := w) (base := base) X
  obtain ⟨fd, F⟩ := X.fn_St_missing
  refine ⟨fd, F.ok sc_St_missing (fun vs H Q E h => ?_) (fun cdv A' outer s H vs Q E hr h => ⟨_, (pss_one (ps_ret (pe_callB (call_max2 rfl) (by rfl) X.b_max (by decide +kernel) (pa_cons pe_int (pa_cons (pe_op op_sub (pe_meth (pe_fld (pv 0) rfl) X.cl_Ru X.m_Ru_owed G_Ru_owed (hr.mono (by decide)) b_Ru_owed .nil pass0 (pa_cons (pe_fld (pv 1) rfl) pa_nil)) (pe_fld (pv 1) rfl)) pa_nil))))), ?_⟩), F.binds fun _ _ _ _ _ _ us hl => match us, hl with | [_, _], _ => rfl⟩
  · obtain ⟨_, _, _, _, rfl, _⟩ := h
    rfl
  · obtain ⟨L, m, a, s, rfl, h, b, hs, k⟩ := h
    refine s_ret (ev_max2 ev_c (ev_i0 (ev_meth (ev_St_rules X h.st (ev_var rfl)) h.bd.ru.ob (no_Ru_owed _) (ea_cons (ev_Sc_has X hs (ev_var rfl)) ea_nil) fun H1 e Q' q E' => ⟨L.ru, L.rl, m.rules, s.has, rfl, h.bd.ru.ex e, b.1, b.2, q⟩) (ev_Sc_judges X hs (ev_var rfl)))) k
end
end Eh

-- EhW2
set_option Elab.async false
set_option linter.all false
set_option maxRecDepth 100000
set_option maxHeartbeats 4000000
namespace Eh
open PySem PySem.Spec PyProof.Rows L2 EhR EhZ Evl
/-! ### statements that write -/
section
variable {K : PySem.W.Frag} {A : Ads} {mg : Str → Option Value} {σ : L2.St} {H : Hp} {ta tb te tv to ti : TE} {t : TA} {x y z v : V} {D : Ends} {tz tu : TS}
/-- xs[i] += e -/
theorem q_augL {l : Addr} {xs : List V} {i a b : Int} (ho : Ev to σ H (.ref l)) (hi : Ev ti σ H (.int i)) (hl : H l = some (.lst xs)) (h0 : 0 ≤ i) (hx : xs[i.toNat]? = some (.int a)) (he : Ev te σ H (.int b))
    (k : ∀ H1, Ex H H1 → tz D σ (upd H1 l (.lst (xs.set i.toNat (.int (a + b)))))) : tSeq (tAugS to ti te (gGetL K) (ipI fun i j => i + j) rSetL) tz D σ H :=
  ho H (Ex.refl H) _ fun H1 e1 => hi H1 e1 _ fun H2 e2 => ⟨l, xs, i, .int a, rfl, rfl, ex_l (e1.trans e2) (SqL.of hl), h0, hx, he H2 (e1.trans e2) _ fun H3 e3 => ⟨a, b, rfl, rfl, l, xs, i, i.toNat, rfl, rfl, ((e1.trans e2).trans e3) l _ hl, by
    have hj : i.toNat < xs.length := (List.getElem?_eq_some_iff.mp hx).1
    have := ixN_nat hj
    rw [Int.toNat_of_nonneg h0] at this
    exact this, k H3 ((e1.trans e2).trans e3)⟩⟩
/-- a new object of the class at C -/
def EvM (te : TE) (σ : L2.St) (H : Hp) (C : Addr) (fs : List (Str × V)) : Prop := ∀ H1, Ex H H1 → ∀ Q : VK, (∀ p H2, H1 p = none → Ex H1 H2 → At H2 p C fs → Q (.ref p) H2) → te σ H1 Q
theorem em_make {C : Addr} {fs : List (Str × V)} {sp : Sp} {E : XK} {vs : List V} (hv : EvA t σ H vs)
    (hs : ∀ (p dx : Addr) (H1 : Hp) (Q : VK), H1 p = some (.ins C dx []) → (∀ H2, At H2 p C fs → (∀ b, b ≠ p → H2 b = H1 b) → Q .non H2) → sp (.ref p :: (vs ++ [])) H1 Q E) : EvM (tMake C sp [] E t) σ H C fs := fun H1 e Q q =>
  hv H1 e _ fun H2 e2 p dx hp hd ne => hs p dx _ _ upd_same fun H3 h3 kp => ⟨rfl, q p H3 (fresh_back e2 hp) (fun b o hb => by
    have nb : b ≠ p := ne_of_none (e2 b o hb) hp
    have nd : b ≠ dx := ne_of_none (e2 b o hb) hd
    rw [kp b nb, upd_ne nb, upd_ne nd]
    exact e2 b o hb) h3⟩
/-- xs.append(a new object) -/
theorem q_appM {C l : Addr} {fs : List (Str × V)} {xs : List V} (hl : H l = some (.lst xs)) (ha : Ev ta σ H (.ref l)) (h : EvM te σ H C fs) (hz : xs.length < 100000) (k : ∀ p H1, H p = none → Ex H H1 → At H1 p C fs → tz D σ (upd H1 l (.lst (xs ++ [.ref p])))) :
    tSeq (tDrop (tBM K "list" rAppend ta (tCons te tNil))) tz D σ H := ha H (Ex.refl H) _ fun H1 e1 =>
  ⟨Or.inl ⟨rfl, xs, sq_of (e1 l _ hl)⟩, h H1 e1 _ fun p H2 hp e2 h2 => ⟨l, xs, .ref p, rfl, rfl, e2 l _ (e1 l _ hl), sz_lt hz, k p H2 (fresh_back e1 hp) (e1.trans e2) h2⟩⟩
/-- o.f = a new list -/
theorem q_stL {a C : Addr} {fs : List (Str × V)} {f : Str} {xs : List V} (hv : EvL tv σ H xs) (ha : Ev ta σ H (.ref a)) (h : At H a C fs) (c : Cls K C) (n : NoAttr K C f) (hl : fs.length < 1000)
    (k : ∀ p H1 dx, H p = none → Ex H H1 → H1 p = some (.lst xs) → H1 a = some (.ins C dx fs) → D.nx σ (upd H1 a (.ins C dx (putF f (.ref p) fs)))) : sFld K ta tv f D σ H :=
  hv H (Ex.refl H) _ fun p H1 hp e1 h1 => ha H1 e1 _ fun H2 e2 => let ⟨dx, hx⟩ := h; have hx2 := (e1.trans e2) a _ hx; ⟨a, C, dx, fs, rfl, hx2, c, n, hl, k p H2 dx hp (e1.trans e2) (e2 p _ h1) hx2⟩
/-! in __init__: the object at p alone is written -/
def Pure (te : TE) (σ : L2.St) (y : V) : Prop := ∀ (H : Hp) (Q : VK), Q y H → te σ H Q
theorem pure_var {i : Nat} (h : σ[i]? = some (some v)) : Pure (tVar i) σ v := fun _ _ q => ⟨v, h, q⟩
theorem pure_c : Pure (tC v) σ v := fun _ _ q => q
theorem n_st {p C dx : Addr} {fs : List (Str × V)} {f : Str} {i : Nat} (c : Cls K C) (n : NoAttr K C f) (hl : fs.length < 1000) (hp : σ[i]? = some (some (.ref p))) (hv : Pure tv σ y)
    (k : D.nx σ (upd H p (.ins C dx (putF f y fs)))) : sFld K (tVar i) tv f D σ (upd H p (.ins C dx fs)) := hv _ _ ⟨.ref p, hp, p, C, dx, fs, rfl, upd_same, c, n, hl, by rw [upd_upd]; exact k⟩
theorem upd_self {p : Addr} {o : HO} (h : H p = some o) : upd H p o = H := by
  funext b
  by_cases e : b = p
  · subst e; rw [upd_same, h]
  · rw [upd_ne e]
/-- what stood stands but at p -/
def Kp (p : Addr) (H H' : Hp) : Prop := ∀ b o, b ≠ p → H b = some o → H' b = some o
theorem Kp.refl (p : Addr) (H : Hp) : Kp p H H := fun _ _ _ h => h
theorem Kp.trans {p : Addr} {H H1 H2 : Hp} (a : Kp p H H1) (b : Kp p H1 H2) : Kp p H H2 := fun c o n h => b c o n (a c o n h)
theorem Kp.fresh {p q : Addr} {H H1 : Hp} (a : Kp p H H1) (hq : q ≠ p) (h : H1 q = none) : H q = none := by
  cases e : H q with
  | none => rfl
  | some o => rw [a q o hq e] at h; cases h
/-- self.f = [..], self at p -/
theorem n_stL {p C dx : Addr} {fs : List (Str × V)} {f : Str} {i : Nat} {vs : List V} (h : H p = some (.ins C dx fs)) (c : Cls K C) (n : NoAttr K C f) (hl : fs.length < 1000) (hp : σ[i]? = some (some (.ref p))) (hv : EvA t σ H vs) (hz : vs.length ≤ 100000)
    (k : ∀ q H1, H1 p = some (.ins C dx (putF f (.ref q) fs)) → q ≠ p → H q = none → H1 q = some (.lst vs) → Kp p H H1 → D.nx σ H1) : sFld K (tVar i) (tLst t) f D σ H :=
  hv H (Ex.refl H) _ fun H1 e1 => ⟨sz_of hz, fun q hq => by
    have hp1 := e1 p _ h
    have nq : q ≠ p := Ne.symm (ne_of_none hp1 hq)
    refine ⟨.ref p, hp, p, C, dx, fs, rfl, ?_, c, n, hl, ?_⟩
    · rw [upd_ne (Ne.symm nq)]; exact hp1
    · refine k q _ upd_same nq (fresh_back e1 hq) ?_ fun b o nb hb => ?_
      · rw [upd_ne nq, upd_same]
      · have hb1 := e1 b o hb
        rw [upd_ne nb, upd_ne (ne_of_none hb1 hq)]
        exact hb1⟩
theorem n_st' {p C dx : Addr} {fs : List (Str × V)} {f : Str} {i : Nat} (h : H p = some (.ins C dx fs)) (c : Cls K C) (n : NoAttr K C f) (hl : fs.length < 1000) (hp : σ[i]? = some (some (.ref p))) (hv : Pure tv σ y)
    (k : ∀ H1, H1 p = some (.ins C dx (putF f y fs)) → (∀ b, b ≠ p → H1 b = H b) → D.nx σ H1) : sFld K (tVar i) tv f D σ H :=
  hv _ _ ⟨.ref p, hp, p, C, dx, fs, rfl, h, c, n, hl, k _ upd_same fun b nb => upd_ne nb⟩
theorem kp_eq {p : Addr} {H H1 : Hp} (h : ∀ b, b ≠ p → H1 b = H b) : Kp p H H1 := fun b o n e => by rw [h b n]; exact e
end
section
variable {P : Program} {w : World} {K : PySem.W.Frag} {mg : Str → Option Value} {base : Heap} {A : Ads}
/-! ### __init__ -/
def sp_Sc_init (K : PySem.W.Frag) (A : Ads) : Sp := fun vs H Q _ => ∃ (p dx : Addr) (n v j : Int), vs = [.ref p, .int n, .int v, .int j] ∧ H p = some (.ins A.Sc dx []) ∧ ∀ H', At H' p A.Sc (msF ⟨n, v, 0, j, 0, 0, 0, 0, 0⟩) → (∀ b, b ≠ p → H' b = H b) → Q .non H'
theorem ok_Sc_init (X : Tx K mg A) : Okd P w K mg base CX0 1 A.Sc_init ["self", "number", "wanted", "judges"] (sp_Sc_init K A) := by
  obtain ⟨fd, F⟩ := X.fn_Sc_init
  refine ⟨fd, F.ok sc_Sc_init (fun vs H Q E h => ?_) (fun cdv A' outer s H vs Q E hr h => ⟨_, (pss_cons (ps_fld (pv 0) (pv 1) rfl)
    (pss_cons (ps_fld (pv 0) (pv 2) rfl)
    (pss_cons (ps_fld (pv 0) pe_int rfl)
    (pss_cons (ps_fld (pv 0) (pv 3) rfl)
    (pss_cons (ps_fld (pv 0) pe_int rfl)
    (pss_cons (ps_fld (pv 0) pe_int rfl)
    (pss_cons (ps_fld (pv 0) pe_int rfl)
    (pss_cons (ps_fld (pv 0) pe_int rfl)
    (pss_one (ps_fld (pv 0) pe_int rfl)))))))))), ?_⟩), F.binds fun _ _ _ _ _ _ us hl => match us, hl with | [_, _, _, _], _ => rfl⟩
  · obtain ⟨_, _, _, _, _, rfl, _⟩ := h
    rfl
  · obtain ⟨p, dx, n, v, j, rfl, hp, k⟩ := h
    rw [← upd_self hp]
    refine n_st X.cl_Sc X.na_Sc_number (by simp) rfl (pure_var rfl) ?_
    rw [new_Sc_number]
    refine n_st X.cl_Sc X.na_Sc_wanted (by simp) rfl (pure_var rfl) ?_
    rw [new_Sc_wanted]
    refine n_st X.cl_Sc X.na_Sc_has (by simp) rfl pure_c ?_
    rw [new_Sc_has]
    refine n_st X.cl_Sc X.na_Sc_judges (by simp) rfl (pure_var rfl) ?_
    rw [new_Sc_judges]
    refine n_st X.cl_Sc X.na_Sc_paid (by simp) rfl pure_c ?_
    rw [new_Sc_paid]
    refine n_st X.cl_Sc X.na_Sc_fees (by simp) rfl pure_c ?_
    rw [new_Sc_fees]
    refine n_st X.cl_Sc X.na_Sc_given (by simp) rfl pure_c ?_
    rw [new_Sc_given]
    refine n_st X.cl_Sc X.na_Sc_fines (by simp) rfl pure_c ?_
    rw [new_Sc_fines]
    refine n_st X.cl_Sc X.na_Sc_out (by simp) rfl pure_c ?_
    rw [new_Sc_out]
    exact k _ ⟨dx, upd_same⟩ fun b hb => upd_ne hb
def sp_Of_init (K : PySem.W.Frag) (A : Ads) : Sp := fun vs H Q _ => ∃ (p dx : Addr) (n s d : Int), vs = [.ref p, .int n, .int s, .int d] ∧ H p = some (.ins A.Of dx []) ∧ ∀ H', At H' p A.Of (moF ⟨n, s, d⟩) → (∀ b, b ≠ p → H' b = H b) → Q .non H'
theorem ok_Of_init (X : Tx K mg A) : Okd P w K mg base CX0 1 A.Of_init ["self", "number", "school", "day"] (sp_Of_init K A) := by
  obtain ⟨fd, F⟩ := X.fn_Of_init
  refine ⟨fd, F.ok sc_Of_init (fun vs H Q E h => ?_) (fun cdv A' outer s H vs Q E hr h => ⟨_, (pss_cons (ps_fld (pv 0) (pv 1) rfl)
    (pss_cons (ps_fld (pv 0) (pv 2) rfl)
    (pss_one (ps_fld (pv 0) (pv 3) rfl)))), ?_⟩), F.binds fun _ _ _ _ _ _ us hl => match us, hl with | [_, _, _, _], _ => rfl⟩
  · obtain ⟨_, _, _, _, _, rfl, _⟩ := h
    rfl
  · obtain ⟨p, dx, n, s0, d, rfl, hp, k⟩ := h
    rw [← upd_self hp]
    refine n_st X.cl_Of X.na_Of_number (by simp) rfl (pure_var rfl) ?_
    rw [new_Of_number]
    refine n_st X.cl_Of X.na_Of_school (by simp) rfl (pure_var rfl) ?_
    rw [new_Of_school]
    refine n_st X.cl_Of X.na_Of_day (by simp) rfl (pure_var rfl) ?_
    rw [new_Of_day]
    exact k _ ⟨dx, upd_same⟩ fun b hb => upd_ne hb
def sp_Cr_init (K : PySem.W.Frag) (A : Ads) : Sp := fun vs H Q _ => ∃ (p dx c : Addr), vs = [.ref p, .ref c] ∧ H p = some (.ins A.Cr dx []) ∧ ∀ H', At H' p A.Cr (crF c 0) → (∀ b, b ≠ p → H' b = H b) → Q .non H'
theorem ok_Cr_init (X : Tx K mg A) : Okd P w K mg base CX0 1 A.Cr_init ["self", "calls"] (sp_Cr_init K A) := by
  obtain ⟨fd, F⟩ := X.fn_Cr_init
  refine ⟨fd, F.ok sc_Cr_init (fun vs H Q E h => ?_) (fun cdv A' outer s H vs Q E hr h => ⟨_, (pss_cons (ps_fld (pv 0) (pv 1) rfl)
    (pss_one (ps_fld (pv 0) pe_int rfl))), ?_⟩), F.binds fun _ _ _ _ _ _ us hl => match us, hl with | [_, _], _ => rfl⟩
  · obtain ⟨_, _, _, rfl, _⟩ := h
    rfl
  · obtain ⟨p, dx, c, rfl, hp, k⟩ := h
    rw [← upd_self hp]
    refine n_st X.cl_Cr X.na_Cr_calls (by simp) rfl (pure_var rfl) ?_
    rw [new_Cr_calls]
    refine n_st X.cl_Cr X.na_Cr_at (by simp) rfl pure_c ?_
    rw [new_Cr_at]
    exact k _ ⟨dx, upd_same⟩ fun b hb => upd_ne hb
/-- nine new lists -/
def sp_Ru_init (K : PySem.W.Frag) (A : Ads) : Sp := fun vs H Q _ => ∃ (p dx : Addr), vs = [.ref p] ∧ H p = some (.ins A.Ru dx []) ∧ ∀ H' rl, RuAt A H' p rl MR.fresh → Kp p H H' → (∀ b ∈ rl, H b = none) → Q .non H'
theorem ok_Ru_init (X : Tx K mg A) : Okd P w K mg base CX0 1 A.Ru_init ["self"] (sp_Ru_init K A) := by
  obtain ⟨fd, F⟩ := X.fn_Ru_init
  refine ⟨fd, F.ok sc_Ru_init (fun vs H Q E h => ?_) (fun cdv A' outer s H vs Q E hr h => ⟨_, (pss_cons (ps_fld (pv 0) (pe_lst (pa_cons pe_int pa_nil)) rfl)
    (pss_cons (ps_fld (pv 0) (pe_lst (pa_cons pe_int pa_nil)) rfl)
    (pss_cons (ps_fld (pv 0) (pe_lst (pa_cons pe_int pa_nil)) rfl)
    (pss_cons (ps_fld (pv 0) (pe_lst (pa_cons pe_int (pa_cons pe_int pa_nil))) rfl)
    (pss_cons (ps_fld (pv 0) (pe_lst (pa_cons pe_int pa_nil)) rfl)
    (pss_cons (ps_fld (pv 0) (pe_lst (pa_cons pe_int pa_nil)) rfl)
    (pss_cons (ps_fld (pv 0) (pe_lst (pa_cons pe_int pa_nil)) rfl)
    (pss_cons (ps_fld (pv 0) (pe_lst (pa_cons pe_int pa_nil)) rfl)
    (pss_one (ps_fld (pv 0) (pe_lst pa_nil) rfl)))))))))), ?_⟩), F.binds fun _ _ _ _ _ _ us hl => match us, hl with | [_], _ => rfl⟩
  · obtain ⟨_, _, rfl, _⟩ := h
    rfl
  · obtain ⟨p, dx, rfl, hp, k⟩ := h
    refine n_stL hp X.cl_Ru X.na_Ru_places (by simp) rfl (ea_cons ev_c ea_nil) (by decide) fun q0 H0 p0 n0 f0 l0 k0 => ?_
    rw [new_Ru_places] at p0
    refine n_stL p0 X.cl_Ru X.na_Ru_form (by simp) rfl (ea_cons ev_c ea_nil) (by decide) fun q1 H1 p1 n1 f1 l1 k1 => ?_
    rw [new_Ru_form] at p1
    refine n_stL p1 X.cl_Ru X.na_Ru_cap (by simp) rfl (ea_cons ev_c ea_nil) (by decide) fun q2 H2 p2 n2 f2 l2 k2 => ?_
    rw [new_Ru_cap] at p2
    refine n_stL p2 X.cl_Ru X.na_Ru_judges (by simp) rfl (ea_cons ev_c (ea_cons ev_c ea_nil)) (by decide) fun q3 H3 p3 n3 f3 l3 k3 => ?_
    rw [new_Ru_judges] at p3
    refine n_stL p3 X.cl_Ru X.na_Ru_fee (by simp) rfl (ea_cons ev_c ea_nil) (by decide) fun q4 H4 p4 n4 f4 l4 k4 => ?_
    rw [new_Ru_fee] at p4
    refine n_stL p4 X.cl_Ru X.na_Ru_fine (by simp) rfl (ea_cons ev_c ea_nil) (by decide) fun q5 H5 p5 n5 f5 l5 k5 => ?_
    rw [new_Ru_fine] at p5
    refine n_stL p5 X.cl_Ru X.na_Ru_answer (by simp) rfl (ea_cons ev_c ea_nil) (by decide) fun q6 H6 p6 n6 f6 l6 k6 => ?_
    rw [new_Ru_answer] at p6
    refine n_stL p6 X.cl_Ru X.na_Ru_begin (by simp) rfl (ea_cons ev_c ea_nil) (by decide) fun q7 H7 p7 n7 f7 l7 k7 => ?_
    rw [new_Ru_begin] at p7
    refine n_stL p7 X.cl_Ru X.na_Ru_back (by simp) rfl ea_nil (by decide) fun q8 H8 p8 n8 f8 l8 k8 => ?_
    rw [new_Ru_back] at p8
    have k78 := k8
    have k68 := k7.trans k78
    have k58 := k6.trans k68
    have k48 := k5.trans k58
    have k38 := k4.trans k48
    have k28 := k3.trans k38
    have k18 := k2.trans k28
    have k08 := k1.trans k18
    have a1 := k0
    have a2 := a1.trans k1
    have a3 := a2.trans k2
    have a4 := a3.trans k3
    have a5 := a4.trans k4
    have a6 := a5.trans k5
    have a7 := a6.trans k6
    have a8 := a7.trans k7
    refine k H8 [q0, q1, q2, q3, q4, q5, q6, q7, q8] ⟨⟨dx, p8⟩, rfl, fun j a ns h1 h2 => ?_⟩ (a8.trans k8) fun b hb => ?_
    · match j, h1, h2 with
      | 0, h1, h2 => cases h1; cases h2; exact k08 _ _ n0 l0
      | 1, h1, h2 => cases h1; cases h2; exact k18 _ _ n1 l1
      | 2, h1, h2 => cases h1; cases h2; exact k28 _ _ n2 l2
      | 3, h1, h2 => cases h1; cases h2; exact k38 _ _ n3 l3
      | 4, h1, h2 => cases h1; cases h2; exact k48 _ _ n4 l4
      | 5, h1, h2 => cases h1; cases h2; exact k58 _ _ n5 l5
      | 6, h1, h2 => cases h1; cases h2; exact k68 _ _ n6 l6
      | 7, h1, h2 => cases h1; cases h2; exact k78 _ _ n7 l7
      | 8, h1, h2 => cases h1; cases h2; exact l8
      | n + 9, h1, h2 => cases h1
    · simp only [List.mem_cons, List.not_mem_nil, or_false] at hb
      rcases hb with z | z | z | z | z | z | z | z | z <;> subst z
      · exact f0
      · exact a1.fresh n1 f1
      · exact a2.fresh n2 f2
      · exact a3.fresh n3 f3
      · exact a4.fresh n4 f4
      · exact a5.fresh n5 f5
      · exact a6.fresh n6 f6
      · exact a7.fresh n7 f7
      · exact a8.fresh n8 f8
/-- a fresh state over rules that are there -/
def sp_St_init (K : PySem.W.Frag) (A : Ads) : Sp := fun vs H Q _ => ∃ (p dx ru : Addr) (rl : List Addr) (r : MR), vs = [.ref p, .ref ru] ∧ H p = some (.ins A.St dx []) ∧ RuAt A H ru rl r ∧ p ≠ ru ∧ p ∉ rl ∧
  ∀ H' L, StAt A H' L { M.fresh with rules := r } → L.st = p → L.ru = ru → L.rl = rl → L.ss = [] → L.os = [] → H L.sl = none → H L.ol = none → Kp p H H' → Q .non H'
theorem ok_St_init (X : Tx K mg A) : Okd P w K mg base CX0 1 A.St_init ["self", "rules"] (sp_St_init K A) := by
  obtain ⟨fd, F⟩ := X.fn_St_init
  refine ⟨fd, F.ok sc_St_init (fun vs H Q E h => ?_) (fun cdv A' outer s H vs Q E hr h => ⟨_, (pss_cons (ps_fld (pv 0) (pv 1) rfl)
    (pss_cons (ps_fld (pv 0) (pe_lst pa_nil) rfl)
    (pss_cons (ps_fld (pv 0) (pe_lst pa_nil) rfl)
    (pss_cons (ps_fld (pv 0) pe_int rfl)
    (pss_cons (ps_fld (pv 0) pe_int rfl)
    (pss_cons (ps_fld (pv 0) pe_bl rfl)
    (pss_one (ps_fld (pv 0) pe_int rfl)))))))), ?_⟩), F.binds fun _ _ _ _ _ _ us hl => match us, hl with | [_, _], _ => rfl⟩
  · obtain ⟨_, _, _, _, _, rfl, _⟩ := h
    rfl
  · obtain ⟨p, dx, ru, rl, r, rfl, hp, hr, n1, n2, k⟩ := h
    refine n_st' hp X.cl_St X.na_St_rules (by simp) rfl (pure_var rfl) fun H1 p1 e1 => ?_
    rw [new_St_rules] at p1
    refine n_stL p1 X.cl_St X.na_St_schools (by simp) rfl ea_nil (by decide) fun sl H2 p2 m2 f2 l2 k2 => ?_
    rw [new_St_schools] at p2
    refine n_stL p2 X.cl_St X.na_St_offers (by simp) rfl ea_nil (by decide) fun ol H3 p3 m3 f3 l3 k3 => ?_
    rw [new_St_offers] at p3
    refine n_st' p3 X.cl_St X.na_St_made (by simp) rfl pure_c fun H4 p4 e4 => ?_
    rw [new_St_made] at p4
    refine n_st' p4 X.cl_St X.na_St_day (by simp) rfl pure_c fun H5 p5 e5 => ?_
    rw [new_St_day] at p5
    refine n_st' p5 X.cl_St X.na_St_is_closed (by simp) rfl pure_c fun H6 p6 e6 => ?_
    rw [new_St_is_closed] at p6
    refine n_st' p6 X.cl_St X.na_St_entries (by simp) rfl pure_c fun H7 p7 e7 => ?_
    rw [new_St_entries] at p7
    have k1 : Kp p H H1 := kp_eq e1
    have k47 : Kp p H3 H7 := (((kp_eq e4).trans (kp_eq e5)).trans (kp_eq e6)).trans (kp_eq e7)
    have kall : Kp p H H7 := ((k1.trans k2).trans k3).trans k47
    have fsl : H sl = none := k1.fresh m2 f2
    have fol : H ol = none := (k1.trans k2).fresh m3 f3
    have nso : sl ≠ ol := fun z => by rw [z, f3] at l2; cases l2
    have hru : RuAt A H7 ru rl r := by
      obtain ⟨⟨d0, o0⟩, h2, h3⟩ := hr
      exact ⟨⟨d0, kall _ _ (Ne.symm n1) o0⟩, h2, fun j a ns e1 e2 => kall _ _ (fun z => n2 (z ▸ List.mem_of_getElem? e1)) (h3 j a ns e1 e2)⟩
    have inrl : ∀ b ∈ rl, ∃ o, H b = some o := fun b hb => by
      obtain ⟨xs, hx⟩ := hr.lst hb
      exact ⟨_, hx⟩
    refine k H7 ⟨p, ru, rl, sl, [], ol, []⟩ ⟨⟨dx, p7⟩, ?_⟩ rfl rfl rfl rfl rfl fsl fol kall
    exact ⟨hru, (k3.trans k47) _ _ m2 l2, ⟨rfl, fun i a x h1 _ => by cases h1⟩, k47 _ _ m3 l3, ⟨rfl, fun i a x h1 _ => by cases h1⟩, List.nodup_nil, nso,
      (fun z => (inrl sl z).elim fun o ho => by rw [fsl] at ho; cases ho), (fun z => (inrl ol z).elim fun o ho => by rw [fol] at ho; cases ho)⟩
end
end Eh

-- EhW3
set_option Elab.async false
set_option linter.all false
set_option maxRecDepth 100000
set_option maxHeartbeats 4000000
namespace Eh
open PySem PySem.Spec PyProof.Rows L2 EhR EhZ Evl
theorem iV_get {l : List Int} {i : Nat} (h : i < l.length) : (iV l)[i]? = some (V.int (l.getD i 0)) := by
  unfold iV
  rw [List.getElem?_map, List.getElem?_eq_getElem h, List.getD_eq_getElem?_getD, List.getElem?_eq_getElem h]
  rfl
theorem iV_getI {l : List Int} {i : Int} (h0 : 0 ≤ i) (h : i < l.length) : (iV l)[i.toNat]? = some (V.int (l.getD i.toNat 0)) := iV_get (by omega)
theorem iV_set (l : List Int) (i : Nat) (x : Int) : (iV l).set i (V.int x) = iV (l.set i x) := by
  unfold iV
  rw [List.map_set]
theorem iV_bump {l : List Int} {p : Nat} : (iV l).set p (V.int (l.getD p 0 + 1)) = iV (bump l p) := iV_set l p _
theorem bump_len (l : List Int) (p : Nat) : (bump l p).length = l.length := by unfold bump; rw [List.length_set]
theorem sum_set_getD : ∀ (l : List Int) (p : Nat), p < l.length → (l.set p (l.getD p 0 + 1)).sum = l.sum + 1
  | [], p, h => by simp at h
  | a :: r, 0, _ => by
    show ((a + 1) :: r).sum = (a :: r).sum + 1
    rw [List.sum_cons, List.sum_cons]
    omega
  | a :: r, p + 1, h => by
    have ih := sum_set_getD r p (by simpa using h)
    show (a :: r.set p (r.getD p 0 + 1)).sum = (a :: r).sum + 1
    rw [List.sum_cons, List.sum_cons, ih]
    omega
theorem bump_sum {l : List Int} {p : Nat} (h : p < l.length) : (bump l p).sum = l.sum + 1 := sum_set_getD l p h
section
variable {P : Program} {w : World} {K : PySem.W.Frag} {mg : Str → Option Value} {base : Heap} {A : Ads}
def sp_St_following (K : PySem.W.Frag) (A : Ads) : Sp := fun vs H Q _ => ∃ (L : Lay) (m : M) (la : Addr) (ls : List Int), vs = [.ref L.st, .ref la] ∧ StAt A H L m ∧ H la = some (.lst (iV ls)) ∧ ls.length = m.schools.length ∧ RetV (.int (following m.rules.cap m.schools ls)) H Q
theorem ok_St_following (X : Tx K mg A) : Okd P w K mg base CX0 2 A.St_following ["self", "loads"] (sp_St_following K A) := by
  obtain ⟨fd_St_waits, G_St_waits, b_St_waits⟩ := ok_St_waits (P := P) (w := w) (base := base) X
  obtain ⟨fd, F⟩ := X.fn_St_following
  refine ⟨fd, F.ok sc_St_following (fun vs H Q E h => ?_) (fun cdv A' outer s H vs Q E hr h => ⟨_, (pss_cons (ps_set (i := 2) sc_St_following.nd rfl (Or.inl rfl) (pe_un un_neg pe_int))
    (pss_cons (ps_for (PassesOwn.never) rfl (pi_enum (by rfl) X.b_enumerate (pa_cons (pe_fld (pv 0) rfl) pa_nil)) (pg_tup rfl (pgs_cons (pg_name (i := 3) sc_St_following.nd rfl (Or.inl rfl)) (pgs_cons (pg_name (i := 4) sc_St_following.nd rfl (Or.inl rfl)) pgs_nil)))
      (pss_one (ps_if (PW.pt (pw_and (pt_val (pe_meth (pv 0) X.cl_St X.m_St_waits G_St_waits (hr.mono (by decide)) b_St_waits .nil pass0 (pa_cons (pv 4) (pa_cons (pe_ix ix_list (pv 1) (pv 3) (fun _ _ => rfl)) pa_nil)))) (pw_and1 (PW.pt (pw_or (pt_cmpR op_lt (pv 2) pe_int (nomark _)) (pw_or1 (pt_cmpR op_lt (pe_ix ix_list (pv 1) (pv 3) (fun _ _ => rfl)) (pe_ix ix_list (pv 1) (pv 2) (fun _ _ => rfl)) (nomark _))))))))
        (pss_one (ps_set (i := 2) sc_St_following.nd rfl (Or.inl rfl) (pv 3)))
        pss_nil)))
    (pss_one (ps_ret (pv 2))))), ?_⟩), F.binds fun _ _ _ _ _ _ us hl => match us, hl with | [_, _], _ => rfl⟩
  · obtain ⟨_, _, _, _, rfl, _⟩ := h
    rfl
  · obtain ⟨L, m, la, ls, rfl, h, hla, hlen, k⟩ := h
    refine q_asg (ev_neg ev_c) fun H1 e1 => ?_
    have h1 := h.ex e1
    refine q_forE (ea_cons (ev_St_schools X h1.st (ev_var rfl)) ea_nil) (SqL.of h1.bd.sl) (fun i σ' H' => (∃ v u, σ' = [some (.ref L.st), some (.ref la), some (.int ((List.range i).foldl (folStep m.rules.cap m.schools ls) (-1))), v, u]) ∧ Ex H H') (fun H2 e2 => ⟨⟨_, _, rfl⟩, e1.trans e2⟩) (fun i σ' H' p => SqL.of (p.2 _ _ h.bd.sl)) (fun i x T σ' H' hx p hT => ?_) fun σ' H' p => ?_
    · obtain ⟨⟨v, u, rfl⟩, e⟩ := p
      have e' := e.trans (Ex.new (o := .tup [.int (i : Nat), x]) hT)
      have hx' : (L.ss.map V.ref)[i]? = some x := hx
      have hi : i < m.schools.length := by
        rw [← h.bd.ss.len]
        have := (List.getElem?_eq_some_iff.mp hx').1
        rw [List.length_map] at this
        exact this
      obtain ⟨a, ha, hs⟩ := h.sch_get hi
      have ex : x = V.ref a := by
        rw [List.getElem?_map, ha] at hx'
        exact (Option.some.inj hx').symm
      subst ex
      have hs' := hs.ex e'
      have h' := h.ex e'
      have hla' := e' _ _ hla
      have fb := fol_bound m.rules.cap m.schools ls i
      generalize hf : (List.range i).foldl (folStep m.rules.cap m.schools ls) (-1) = f at fb
      have hstep : (List.range (i + 1)).foldl (folStep m.rules.cap m.schools ls) (-1) = folStep m.rules.cap m.schools ls f i := by
        rw [List.range_succ, List.foldl_append, hf]
        rfl
      rw [hstep]
      refine s_ifAsg (v := .int (folStep m.rules.cap m.schools ls f i)) (b := (waitsM m.rules.cap (m.schools.getD i MS.zero) (ls.getD i 0) && (decide (f < 0) || decide (ls.getD i 0 < ls.getD f.toNat 0)))) ?_ (fun hb => ?_) (fun hb => ?_) fun H2 e2 => ⟨⟨_, _, rfl⟩, e'.trans e2⟩
      · refine et_and (et_B (ev_meth (ev_var rfl) h'.st (no_St_waits _ _) (ea_cons (ev_var rfl) (ea_cons (ev_ixn (ev_var rfl) (ev_var rfl) (SqL.of hla') (by omega) (iV_get (by omega))) ea_nil)) fun H2 e2 Q' q E' => ⟨L, m, a, m.sch i, _, rfl, h'.ex e2, hs'.ex e2, q⟩)) fun _ => ?_
        refine et_or (et_test (ev_i0 (ev_var rfl) ev_c)) fun hn => ?_
        have hn' := of_decide_eq_false hn
        exact et_test (ev_i0 (ev_ixn (ev_var rfl) (ev_var rfl) (SqL.of hla') (by omega) (iV_get (by omega))) (ev_ixn (ev_var rfl) (ev_var rfl) (SqL.of hla') (by omega) (iV_getI (by omega) (by omega))))
      · have : folStep m.rules.cap m.schools ls f i = (i : Int) := if_pos hb
        rw [this]
        exact ev_var rfl
      · have : folStep m.rules.cap m.schools ls f i = f := if_neg (by rw [hb]; decide)
        rw [this]
        rfl
    · obtain ⟨⟨v, u, rfl⟩, e⟩ := p
      refine s_ret (ev_var rfl) fun H2 e2 => ?_
      have e3 : (refs L.ss).length = m.schools.length := by unfold refs; rw [List.length_map, h.bd.ss.len]
      rw [e3]
      exact k H2 (e.trans e2)
def sp_St_queue (K : PySem.W.Frag) (A : Ads) : Sp := fun vs H Q _ => ∃ (L : Lay) (m : M), vs = [.ref L.st] ∧ StAt A H L m ∧ Good m ∧ RetL (iV (queueOf m)) H Q
theorem queue_len (cap : Int) (ss : List MS) : ∀ (n : Nat) (ls : List Int), (queueM cap ss n ls).length ≤ n
  | 0, _ => Nat.le_refl _
  | n + 1, ls => by
    unfold queueM
    split
    · rw [List.length_cons]
      have := queue_len cap ss n (bump ls (following cap ss ls).toNat)
      omega
    · exact Nat.zero_le _
theorem ok_St_queue (X : Tx K mg A) : Okd P w K mg base CX0 4 A.St_queue ["self"] (sp_St_queue K A) := by
  obtain ⟨fd_St_following, G_St_following, b_St_following⟩ := ok_St_following (P := P) (w := w) (base := base) X
  obtain ⟨fd_St_loads, G_St_loads, b_St_loads⟩ := ok_St_loads (P := P) (w := w) (base := base) X
  obtain ⟨fd, F⟩ := X.fn_St_queue
  refine ⟨fd, F.ok sc_St_queue (fun vs H Q E h => ?_) (fun cdv A' outer s H vs Q E hr h => ⟨_, (pss_cons (ps_set (i := 1) sc_St_queue.nd rfl (Or.inl rfl) (pe_meth0 (pv 0) X.cl_St X.m_St_loads G_St_loads (hr.mono (by decide)) b_St_loads .nil pass0))
    (pss_cons (ps_set (i := 2) sc_St_queue.nd rfl (Or.inl rfl) (pe_lst pa_nil))
    (pss_cons (ps_set (i := 3) sc_St_queue.nd rfl (Or.inl rfl) (pe_meth (pv 0) X.cl_St X.m_St_following G_St_following (hr.mono (by decide)) b_St_following .nil pass0 (pa_cons (pv 1) pa_nil)))
    (pss_cons (ps_while (PassesOwn.never) (pt_cmpR op_ge (pv 3) pe_int (nomark _))
      (pss_cons (ps_expr (pe_bm PySem.F.plainAttrs_list PySem.F.slot_list_append PySem.F.type_list_append mt_append (pv 2) (pa_cons (pe_fld (pe_ix ix_list (pe_fld (pv 0) rfl) (pv 3) (fun _ _ => rfl)) rfl) pa_nil)))
      (pss_cons (ps_augS (pv 1) (pv 3) get_list pe_int ip_add set_list)
      (pss_one (ps_set (i := 3) sc_St_queue.nd rfl (Or.inl rfl) (pe_meth (pv 0) X.cl_St X.m_St_following G_St_following (hr.mono (by decide)) b_St_following .nil pass0 (pa_cons (pv 1) pa_nil)))))))
    (pss_one (ps_ret (pv 2))))))), ?_⟩), F.binds fun _ _ _ _ _ _ us hl => match us, hl with | [_], _ => rfl⟩
  · obtain ⟨_, _, rfl, _⟩ := h
    rfl
  · obtain ⟨L, m, rfl, h, g, k⟩ := h
    have b := g.bounds
    refine q_asgL (el_meth (ev_var rfl) h.st (no_St_loads _ _) ea_nil fun H1 e Q' q E' => ⟨L, m, rfl, h.ex e, b.offs, b.few, fun p H2 hp e2 h2 => q p H2 hp e2 h2⟩) fun p1 H1 hp1 e1 l1 => ?_
    refine q_asgL (el_lst ea_nil (by decide)) fun p2 H2 hp2 e2 l2 => ?_
    have h2 := h.ex (e1.trans e2)
    have n12 : p1 ≠ p2 := fun z => by rw [← z, l1] at hp2; cases hp2
    have llen : m.loads.length = m.schools.length := by unfold M.loads; rw [List.length_map]
    refine q_asg (v := .int (following m.rules.cap m.schools m.loads)) (ev_meth (ev_var rfl) h2.st (no_St_following _ _) (ea_cons (ev_var rfl) ea_nil) fun H3 e3 Q' q E' => ⟨L, m, p1, m.loads, rfl, h2.ex e3, e3 _ _ (e2 _ _ l1), llen, q⟩) fun H3 e3 => ?_
    have hfin : RetL (iV ([] ++ queueM m.rules.cap m.schools 300 m.loads)) H Q := k
    have hp1H : H p1 = none := hp1
    have hp2H : H p2 = none := fresh_back e1 hp2
    refine q_while (fun n σ' H' => ∃ ls out, σ' = [some (.ref L.st), some (.ref p1), some (.ref p2), some (.int (following m.rules.cap m.schools ls))] ∧ Ex H H' ∧ H' p1 = some (.lst (iV ls)) ∧ H' p2 = some (.lst (iV out)) ∧ ls.length = m.schools.length ∧ n ≤ 300 ∧ out.length + n ≤ 300 ∧ queueEnds m.rules.cap m.schools n ls ∧ RetL (iV (out ++ queueM m.rules.cap m.schools n ls)) H Q) 300
      ⟨m.loads, [], rfl, (e1.trans e2).trans e3, e3 _ _ (e2 _ _ l1), e3 _ _ l2, llen, Nat.le_refl _, Nat.le_refl _, g.queue, hfin⟩ (fun n σ' H' hw => ?_)
    obtain ⟨ls, out, rfl, e, hl1, hl2, hlen, hn, hout, hends, hq⟩ := hw
    have h' := h.ex e
    refine ⟨decide (0 ≤ following m.rules.cap m.schools ls), et_test (ev_i0 (ev_var rfl) ev_c), fun hb H4 e4 => ?_, fun hb H4 e4 => ?_⟩
    · have hf := of_decide_eq_true hb
      have hlt := following_lt m.rules.cap m.schools ls
      match n, hn, hout, hends, hq with
      | 0, _, _, hends, _ => exact absurd hf (Int.not_le.mpr hends)
      | n + 1, hn, hout, hends, hq =>
        refine ⟨fun σ2 H2 => ∃ m', m' < n + 1 ∧ ∃ ls out, σ2 = [some (.ref L.st), some (.ref p1), some (.ref p2), some (.int (following m.rules.cap m.schools ls))] ∧ Ex H H2 ∧ H2 p1 = some (.lst (iV ls)) ∧ H2 p2 = some (.lst (iV out)) ∧ ls.length = m.schools.length ∧ m' ≤ 300 ∧ out.length + m' ≤ 300 ∧ queueEnds m.rules.cap m.schools m' ls ∧ RetL (iV (out ++ queueM m.rules.cap m.schools m' ls)) H Q, fun _ _ z => z, ?_⟩
        have h4 := h'.ex e4
        obtain ⟨a, ha, hs⟩ := h4.sch_get (i := (following m.rules.cap m.schools ls).toNat) (by omega)
        have hra : (refs L.ss)[(following m.rules.cap m.schools ls).toNat]? = some (V.ref a) := by unfold refs; rw [List.getElem?_map, ha]; rfl
        refine q_app (e4 _ _ hl2) (ev_var rfl) (ev_Sc_number X hs (ev_ixn (ev_St_schools X h4.st (ev_var rfl)) (ev_var rfl) (SqL.of h4.bd.sl) hf hra)) (by unfold iV; rw [List.length_map]; omega) fun H5 e5 => ?_
        have ex5 : Ex H (upd H5 p2 (.lst (iV out ++ [.int (m.sch (following m.rules.cap m.schools ls).toNat).number]))) := ((e.trans e4).trans e5).mut hp2H
        have hl1' : upd H5 p2 (.lst (iV out ++ [.int (m.sch (following m.rules.cap m.schools ls).toNat).number])) p1 = some (.lst (iV ls)) := by rw [upd_ne n12]; exact e5 _ _ (e4 _ _ hl1)
        refine q_augL (ev_var rfl) (ev_var rfl) hl1' hf (iV_getI hf (by omega)) ev_c fun H6 e6 => ?_
        rw [iV_bump]
        have ex6 : Ex H (upd H6 p1 (.lst (iV (bump ls (following m.rules.cap m.schools ls).toNat)))) := (ex5.trans e6).mut hp1H
        have h6 := h.ex ex6
        have l1' : upd H6 p1 (.lst (iV (bump ls (following m.rules.cap m.schools ls).toNat))) p1 = some (.lst (iV (bump ls (following m.rules.cap m.schools ls).toNat))) := upd_same
        have l2' : upd H6 p1 (.lst (iV (bump ls (following m.rules.cap m.schools ls).toNat))) p2 = some (.lst (iV (out ++ [(m.sch (following m.rules.cap m.schools ls).toNat).number]))) := by
          rw [upd_ne (Ne.symm n12)]
          refine (e6 _ _ upd_same).trans ?_
          unfold iV
          rw [List.map_append]
          rfl
        refine s_asg (v := .int (following m.rules.cap m.schools (bump ls (following m.rules.cap m.schools ls).toNat))) (ev_meth (ev_var rfl) h6.st (no_St_following _ _) (ea_cons (ev_var rfl) ea_nil) fun H7 e7 Q' q E' => ⟨L, m, p1, _, rfl, h6.ex e7, e7 _ _ l1', by rw [bump_len]; exact hlen, q⟩) fun H7 e7 => ?_
        have hqe : queueM m.rules.cap m.schools (n + 1) ls = (m.sch (following m.rules.cap m.schools ls).toNat).number :: queueM m.rules.cap m.schools n (bump ls (following m.rules.cap m.schools ls).toNat) := by
          conv => lhs; unfold queueM
          exact if_pos hf
        rw [hqe] at hq
        refine ⟨n, Nat.lt_succ_self n, _, _, rfl, ex6.trans e7, e7 _ _ l1', e7 _ _ l2', by rw [bump_len]; exact hlen, by omega, by rw [List.length_append]; show out.length + 1 + n ≤ 300; omega, hends hf, ?_⟩
        rw [List.append_assoc]
        exact hq
    · have hf := of_decide_eq_false hb
      have hqe : queueM m.rules.cap m.schools n ls = [] := by
        cases n with
        | zero => rfl
        | succ n =>
          unfold queueM
          exact if_neg hf
      rw [hqe, List.append_nil] at hq
      exact s_ret (ev_var rfl) fun H5 e5 => hq p2 H5 hp2H ((e.trans e4).trans e5) (e5 _ _ (e4 _ _ hl2))
/-! ### offers made -/
theorem StAt.addOff {A : Ads} {H : Hp} {L : Lay} {m : M} {a : Addr} {o : MO} (h : StAt A H L m) (ha : At H a A.Of (moF o)) : StAt A (upd H L.ol (.lst (refs (L.os ++ [a])))) { L with os := L.os ++ [a] } { m with offers := m.offers ++ [o] } :=
  ⟨h.st.off (h.st.ne_lst h.bd.ol), h.bd.addOff ha⟩
theorem foot_os {L : Lay} {a b : Addr} (h : b ∈ foot { L with os := L.os ++ [a] }) : b ∈ foot L ∨ b = a := by
  rcases mem_foot.mp h with e | e
  · exact .inl (mem_foot.mpr (.inl e))
  · rcases mem_bfoot.mp e with q | q | q | q | q | q
    · exact .inl (mem_foot.mpr (.inr (mem_bfoot.mpr (.inl q))))
    · exact .inl (mem_foot.mpr (.inr (mem_bfoot.mpr (.inr (.inl q)))))
    · exact .inl (mem_foot.mpr (.inr (mem_bfoot.mpr (.inr (.inr (.inl q))))))
    · exact .inl (mem_foot.mpr (.inr (mem_bfoot.mpr (.inr (.inr (.inr (.inl q)))))))
    · exact .inl (mem_foot.mpr (.inr (mem_bfoot.mpr (.inr (.inr (.inr (.inr (.inl q))))))))
    · have q' : b ∈ L.os ++ [a] := q
      rcases List.mem_append.mp q' with r | r
      · exact .inl (mem_foot.mpr (.inr (mem_bfoot.mpr (.inr (.inr (.inr (.inr (.inr r))))))))
      · exact .inr (by simpa using r)
theorem foot_st (L : Lay) : L.st ∈ foot L := mem_foot.mpr (.inl rfl)
theorem foot_ol (L : Lay) : L.ol ∈ foot L := mem_foot.mpr (.inr (mem_bfoot.mpr (.inr (.inr (.inl rfl)))))
theorem foot_sl (L : Lay) : L.sl ∈ foot L := mem_foot.mpr (.inr (mem_bfoot.mpr (.inr (.inl rfl))))
theorem foot_ss {L : Lay} {a : Addr} (h : a ∈ L.ss) : a ∈ foot L := mem_foot.mpr (.inr (mem_bfoot.mpr (.inr (.inr (.inr (.inr (.inl h)))))))
theorem Fr.exWrite {H H1 : Hp} {F F1 : List Addr} {a : Addr} {o : HO} (e : Ex H H1) (h : a ∈ F) (hn : ∀ b ∈ F1, b ∈ F ∨ H b = none) : Fr H (upd H1 a o) F F1 := by
  refine ⟨fun c u hc n => ?_, hn⟩
  have nc : c ≠ a := fun z => n (z ▸ h)
  rw [upd_ne nc]
  exact e c u hc
theorem StAt.infoot {A : Ads} {H : Hp} {L : Lay} {m : M} (h : StAt A H L m) : ∀ x ∈ foot L, ∃ o, H x = some o := fun x hx => by
  rcases mem_foot.mp hx with e | e
  · obtain ⟨d, q⟩ := h.st; exact ⟨_, e ▸ q⟩
  · rcases mem_bfoot.mp e with q | q | q | q | q | q
    · obtain ⟨d, r⟩ := h.bd.ru.ob; exact ⟨_, q ▸ r⟩
    · exact ⟨_, q ▸ h.bd.sl⟩
    · exact ⟨_, q ▸ h.bd.ol⟩
    · obtain ⟨xs, r⟩ := h.bd.ru.lst q; exact ⟨_, r⟩
    · obtain ⟨x', d, r⟩ := h.bd.ss.mem q; exact ⟨_, r⟩
    · obtain ⟨x', d, r⟩ := h.bd.os.mem q; exact ⟨_, r⟩
theorem StAt.nofoot {A : Ads} {H : Hp} {L : Lay} {m : M} (h : StAt A H L m) {p : Addr} (hp : H p = none) : p ∉ foot L := fun z => by
  obtain ⟨o, ho⟩ := h.infoot p z
  rw [hp] at ho
  cases ho
def sp_St_make_offers (K : PySem.W.Frag) (A : Ads) : Sp := fun vs H Q _ => ∃ (L : Lay) (m : M), vs = [.ref L.st] ∧ StAt A H L m ∧ Good m ∧ ∀ H' L', StAt A H' L' m.makeOffers → L'.st = L.st → Fr H H' (foot L) (foot L') → Q .non H'
theorem ok_St_make_offers (X : Tx K mg A) : Okd P w K mg base CX0 4 A.St_make_offers ["self"] (sp_St_make_offers K A) := by
  obtain ⟨fd_St_following, G_St_following, b_St_following⟩ := ok_St_following (P := P) (w := w) (base := base) X
  obtain ⟨fd_Of_init, G_Of_init, b_Of_init⟩ := ok_Of_init (P := P) (w := w) (base := base) X
  obtain ⟨fd_St_loads, G_St_loads, b_St_loads⟩ := ok_St_loads (P := P) (w := w) (base := base) X
  obtain ⟨fd, F⟩ := X.fn_St_make_offers
  refine ⟨fd, F.ok sc_St_make_offers (fun vs H Q E h => ?_) (fun cdv A' outer s H vs Q E hr h => ⟨_, (pss_cons (ps_set (i := 1) sc_St_make_offers.nd rfl (Or.inl rfl) (pe_meth0 (pv 0) X.cl_St X.m_St_loads G_St_loads (hr.mono (by decide)) b_St_loads .nil pass0))
    (pss_cons (ps_set (i := 2) sc_St_make_offers.nd rfl (Or.inl rfl) (pe_meth (pv 0) X.cl_St X.m_St_following G_St_following (hr.mono (by decide)) b_St_following .nil pass0 (pa_cons (pv 1) pa_nil)))
    (pss_one (ps_while (PassesOwn.never) (PW.pt (pw_and (pt_cmpR op_ge (pv 2) pe_int (nomark _)) (pw_and1 (pt_cmpR op_lt (pe_callB (cr_sum rfl) (by rfl) X.b_sum (by decide +kernel) (pa_cons (pv 1) pa_nil)) (pe_ix ix_list (pe_fld (pe_fld (pv 0) rfl) rfl) pe_int (fun _ _ => rfl)) (nomark _)))))
      (pss_cons (ps_expr (pe_bm PySem.F.plainAttrs_list PySem.F.slot_list_append PySem.F.type_list_append mt_append (pe_fld (pv 0) rfl) (pa_cons (pe_make X.mk_Of G_Of_init (hr.mono (by decide)) rfl X.g_Of b_Of_init .nil pass0 (pa_cons (pe_fld (pv 0) rfl) (pa_cons (pe_fld (pe_ix ix_list (pe_fld (pv 0) rfl) (pv 2) (fun _ _ => rfl)) rfl) (pa_cons (pe_fld (pv 0) rfl) pa_nil)))) pa_nil)))
      (pss_cons (ps_fldaug (pv 0) pe_int in_add)
      (pss_cons (ps_augS (pv 1) (pv 2) get_list pe_int ip_add set_list)
      (pss_one (ps_set (i := 2) sc_St_make_offers.nd rfl (Or.inl rfl) (pe_meth (pv 0) X.cl_St X.m_St_following G_St_following (hr.mono (by decide)) b_St_following .nil pass0 (pa_cons (pv 1) pa_nil))))))))))), ?_⟩), F.binds fun _ _ _ _ _ _ us hl => match us, hl with | [_], _ => rfl⟩
  · obtain ⟨_, _, rfl, _⟩ := h
    rfl
  · obtain ⟨L, m, rfl, h, g, k⟩ := h
    have b := g.bounds
    have s0 := g.sum0
    refine q_asgL (el_meth (ev_var rfl) h.st (no_St_loads _ _) ea_nil fun H1 e Q' q E' => ⟨L, m, rfl, h.ex e, b.offs, b.few, fun p H2 hp e2 h2 => q p H2 hp e2 h2⟩) fun p1 H1 hp1 e1 l1 => ?_
    have h1 := h.ex e1
    have llen : m.loads.length = m.schools.length := by unfold M.loads; rw [List.length_map]
    refine q_asg (v := .int (following m.rules.cap m.schools m.loads)) (ev_meth (ev_var rfl) h1.st (no_St_following _ _) (ea_cons (ev_var rfl) ea_nil) fun H3 e3 Q' q E' => ⟨L, m, p1, m.loads, rfl, h1.ex e3, e3 _ _ l1, llen, q⟩) fun H3 e3 => ?_
    have np1 : p1 ∉ foot L := h.nofoot hp1
    refine s_while (fun n σ' H' => ∃ L' m' ls, σ' = [some (.ref L.st), some (.ref p1), some (.int (following m.rules.cap m.schools ls))] ∧ StAt A H' L' m' ∧ L'.st = L.st ∧ Fr H H' (foot L) (foot L') ∧ H' p1 = some (.lst (iV ls)) ∧ p1 ∉ foot L' ∧ ls.length = m.schools.length ∧ m'.rules = m.rules ∧ m'.schools = m.schools ∧ m'.offers.length + n ≤ 120 ∧ m.rules.places - ls.sum ≤ n ∧ makeM n m' ls = m.makeOffers) m.rules.places.toNat
      ⟨L, m, m.loads, rfl, h.ex (e1.trans e3), rfl, (Fr.refl H _).ex (e1.trans e3), e3 _ _ l1, np1, llen, rfl, rfl, by have := b.offs; have := b.pl; omega, by omega, rfl⟩ (fun n σ' H' hw => ?_)
    obtain ⟨L', m', ls, rfl, h', hst, fr, hl1, np, hlen, hru, hsch, hoff, hsum, hmk⟩ := hw
    have hst' : At H' L.st A.St (stF L' m') := hst ▸ h'.st
    refine ⟨decide (0 ≤ following m.rules.cap m.schools ls) && decide (ls.sum < m.rules.places), ?_, fun hb H4 e4 => ?_, fun hb H4 e4 => ?_⟩
    · refine et_and (et_test (ev_i0 (ev_var rfl) ev_c)) fun _ => et_test (ev_i0 (ev_sum (ev_var rfl) (SqL.of hl1)) ?_)
      rw [← hru]
      exact ev_ix0 (ev_Ru_places X h'.bd.ru.ob (ev_St_rules X hst' (ev_var rfl))) h'.bd.ru.places
    · rw [Bool.and_eq_true] at hb
      have hf := of_decide_eq_true hb.1
      have hp := of_decide_eq_true hb.2
      have hlt := following_lt m.rules.cap m.schools ls
      match n, hoff, hsum, hmk with
      | 0, _, hsum, _ => exact absurd hp (by omega)
      | n + 1, hoff, hsum, hmk =>
        refine ⟨fun σ2 H2 => ∃ n', n' < n + 1 ∧ ∃ L' m' ls, σ2 = [some (.ref L.st), some (.ref p1), some (.int (following m.rules.cap m.schools ls))] ∧ StAt A H2 L' m' ∧ L'.st = L.st ∧ Fr H H2 (foot L) (foot L') ∧ H2 p1 = some (.lst (iV ls)) ∧ p1 ∉ foot L' ∧ ls.length = m.schools.length ∧ m'.rules = m.rules ∧ m'.schools = m.schools ∧ m'.offers.length + n' ≤ 120 ∧ m.rules.places - ls.sum ≤ n' ∧ makeM n' m' ls = m.makeOffers, fun _ _ z => z, ?_⟩
        have h4 := h'.ex e4
        have hst4 : At H4 L.st A.St (stF L' m') := hst ▸ h4.st
        obtain ⟨a, ha, hs⟩ := h4.sch_get (i := (following m.rules.cap m.schools ls).toNat) (by rw [hsch]; omega)
        have hra : (refs L'.ss)[(following m.rules.cap m.schools ls).toNat]? = some (V.ref a) := by unfold refs; rw [List.getElem?_map, ha]; rfl
        refine q_appM (C := A.Of) (fs := moF ⟨m'.made, (m'.sch (following m.rules.cap m.schools ls).toNat).number, m'.day⟩) h4.bd.ol (ev_St_offers X hst4 (ev_var rfl)) (em_make (ea_cons (ev_St_made X hst4 (ev_var rfl)) (ea_cons (ev_Sc_number X hs (ev_ixn (ev_St_schools X hst4 (ev_var rfl)) (ev_var rfl) (SqL.of h4.bd.sl) hf hra)) (ea_cons (ev_St_day X hst4 (ev_var rfl)) ea_nil))) fun p dx H5 Q' hp' q => ⟨p, dx, _, _, _, rfl, hp', q⟩) (by unfold refs; rw [List.length_map, h4.bd.os.len]; omega) fun x H5 hx e5 hat => ?_
        have h5 := (h4.ex e5).addOff hat
        have hxs : refs L'.os ++ [V.ref x] = refs (L'.os ++ [x]) := by unfold refs; rw [List.map_append]; rfl
        rw [hxs]
        have fr5 : Fr H (upd H5 L'.ol (.lst (refs (L'.os ++ [x])))) (foot L) (foot { L' with os := L'.os ++ [x] }) := (fr.ex e4).trans (Fr.exWrite e5 (foot_ol L') fun c hc => (foot_os hc).imp id fun q => by rw [q]; exact hx)
        have np5 : p1 ∉ foot { L' with os := L'.os ++ [x] } := fun z => (foot_os z).elim np fun q => by
          have := e4 _ _ hl1
          rw [q, hx] at this
          cases this
        have l5 : upd H5 L'.ol (.lst (refs (L'.os ++ [x]))) p1 = some (.lst (iV ls)) := by
          have n : p1 ≠ L'.ol := fun z => np (by rw [z]; exact foot_ol L')
          rw [upd_ne n]
          exact e5 _ _ (e4 _ _ hl1)
        generalize hH6 : upd H5 L'.ol (.lst (refs (L'.os ++ [x]))) = H6 at h5 fr5 l5
        have hst6 : At H6 L.st A.St (stF { L' with os := L'.os ++ [x] } { m' with offers := m'.offers ++ [⟨m'.made, (m'.sch (following m.rules.cap m.schools ls).toNat).number, m'.day⟩] }) := hst ▸ h5.st
        refine q_aug_add (ev_var rfl) ev_c hst6 X.cl_St X.na_St_made (lk_St_made _ _) (by show 7 < 1000; decide) fun H7 dx e7 h7 => ?_
        rw [pt_St_made]
        have h8 : StAt A (upd H7 L.st (.ins A.St dx (stF { L' with os := L'.os ++ [x] } (m'.offerTo (following m.rules.cap m.schools ls).toNat)))) { L' with os := L'.os ++ [x] } (m'.offerTo (following m.rules.cap m.schools ls).toNat) := by
          rw [← hst]
          exact (h5.ex e7).setSt (L' := { L' with os := L'.os ++ [x] }) (m' := m'.offerTo (following m.rules.cap m.schools ls).toNat) rfl ⟨(h5.ex e7).bd.ru, (h5.ex e7).bd.sl, (h5.ex e7).bd.ss, (h5.ex e7).bd.ol, (h5.ex e7).bd.os, (h5.ex e7).bd.nd, (h5.ex e7).bd.d1, (h5.ex e7).bd.d2, (h5.ex e7).bd.d3⟩
        have fr8 : Fr H (upd H7 L.st (.ins A.St dx (stF { L' with os := L'.os ++ [x] } (m'.offerTo (following m.rules.cap m.schools ls).toNat)))) (foot L) (foot { L' with os := L'.os ++ [x] }) := (fr5.ex e7).trans (Fr.write (hst ▸ foot_st { L' with os := L'.os ++ [x] }))
        have l8 : upd H7 L.st (.ins A.St dx (stF { L' with os := L'.os ++ [x] } (m'.offerTo (following m.rules.cap m.schools ls).toNat))) p1 = some (.lst (iV ls)) := by
          have n : p1 ≠ L.st := fun z => np1 (by rw [z]; exact foot_st L)
          rw [upd_ne n]
          exact e7 _ _ l5
        refine q_augL (ev_var rfl) (ev_var rfl) l8 hf (iV_getI hf (by omega)) ev_c fun H9 e9 => ?_
        rw [iV_bump]
        have h9 := h8.ex e9
        have h10 : StAt A (upd H9 p1 (.lst (iV (bump ls (following m.rules.cap m.schools ls).toNat)))) { L' with os := L'.os ++ [x] } (m'.offerTo (following m.rules.cap m.schools ls).toNat) :=
          ⟨h9.st.off fun z => np5 (mem_foot.mpr (.inl z.symm)), h9.bd.off fun z => np5 (mem_foot.mpr (.inr z))⟩
        have fr10 : Fr H (upd H9 p1 (.lst (iV (bump ls (following m.rules.cap m.schools ls).toNat)))) (foot L) (foot { L' with os := L'.os ++ [x] }) :=
          ⟨fun c o hc nc => by
            have n1 : c ≠ p1 := ne_of_none hc hp1
            rw [upd_ne n1]
            exact (fr8.ex e9).keep c o hc nc, fr8.new⟩
        have l10 : upd H9 p1 (.lst (iV (bump ls (following m.rules.cap m.schools ls).toNat))) p1 = some (.lst (iV (bump ls (following m.rules.cap m.schools ls).toNat))) := upd_same
        have hst10 := hst ▸ h10.st
        refine s_asg (v := .int (following m.rules.cap m.schools (bump ls (following m.rules.cap m.schools ls).toNat))) (ev_meth (ev_var rfl) hst10 (no_St_following _ _) (ea_cons (ev_var rfl) ea_nil) fun H11 e11 Q' q E' => ⟨{ L' with os := L'.os ++ [x] }, m'.offerTo (following m.rules.cap m.schools ls).toNat, p1, _, by rw [← hst]; rfl, h10.ex e11, e11 _ _ l10, by
          show (bump ls _).length = m'.schools.length
          rw [bump_len, hsch]; exact hlen, by
          show RetV (.int (following m'.rules.cap m'.schools _)) H11 Q'
          rw [hru, hsch]
          exact q⟩) fun H11 e11 => ?_
        have hmk' : makeM n (m'.offerTo (following m.rules.cap m.schools ls).toNat) (bump ls (following m.rules.cap m.schools ls).toNat) = m.makeOffers := by
          have e := hmk
          unfold makeM at e
          rw [hru, hsch] at e
          rw [if_pos ⟨hf, hp⟩] at e
          exact e
        refine ⟨n, Nat.lt_succ_self n, { L' with os := L'.os ++ [x] }, _, _, rfl, h10.ex e11, hst, fr10.ex e11, e11 _ _ l10, np5, by rw [bump_len]; exact hlen, hru, hsch, ?_, ?_, hmk'⟩
        · show (m'.offers ++ [_]).length + n ≤ 120
          rw [List.length_append]
          show m'.offers.length + 1 + n ≤ 120
          omega
        · rw [bump_sum (by omega)]
          omega
    · have hm : m' = m.makeOffers := by
        rw [← hmk]
        cases n with
        | zero => rfl
        | succ n =>
          unfold makeM
          rw [hru, hsch, if_neg]
          rintro ⟨a, b⟩
          rw [decide_eq_true a, decide_eq_true b] at hb
          cases hb
      rw [hm] at h'
      exact k H4 L' (h'.ex e4) hst (fr.ex e4)
end
end Eh

-- EhW4
set_option Elab.async false
set_option linter.all false
set_option maxRecDepth 100000
set_option maxHeartbeats 4000000
namespace Eh
open PySem PySem.Spec PyProof.Rows L2 EhR EhZ Evl
/-! ### fields written -/
theorem Body.eqm {A : Ads} {H : Hp} {L : Lay} {m m' : M} (h : Body A H L m) (e1 : m'.rules = m.rules) (e2 : m'.schools = m.schools) (e3 : m'.offers = m.offers) : Body A H L m' :=
  ⟨by rw [e1]; exact h.ru, h.sl, by rw [e2]; exact h.ss, h.ol, by rw [e3]; exact h.os, h.nd, h.d1, h.d2, h.d3⟩
section
variable {K : PySem.W.Frag} {mg : Str → Option Value} {A : Ads} {σ : L2.St} {H : Hp} {ta te tv : TE} {D : Ends} {L : Lay} {m m' : M} {f : Str} {v : V} {x j : Int} {a : Addr} {s s' : MS} {i : Nat}
/-- a state's field is written -/
theorem w_st (X : Tx K mg A) (h : StAt A H L m) (hv : Ev tv σ H v) (ha : Ev ta σ H (.ref L.st)) (n : NoAttr K A.St f) (pt : putF f v (stF L m) = stF L m') (e1 : m'.rules = m.rules) (e2 : m'.schools = m.schools) (e3 : m'.offers = m.offers)
    (k : ∀ H1, StAt A H1 L m' → Fr H H1 (foot L) (foot L) → D.nx σ H1) : sFld K ta tv f D σ H :=
  q_st hv ha h.st X.cl_St n (by show 7 < 1000; decide) fun H1 dx e1' _ => by
    rw [pt]
    exact k _ ((h.ex e1').setSt rfl ((h.ex e1').bd.eqm e1 e2 e3)) (Fr.exWrite e1' (foot_st L) fun _ q => .inl q)
theorem w_stA (X : Tx K mg A) (h : StAt A H L m) (ha : Ev ta σ H (.ref L.st)) (hv : Ev tv σ H (.int j)) (n : NoAttr K A.St f) (l : (stF L m).lookup f = some (.int x)) (pt : putF f (.int (x + j)) (stF L m) = stF L m') (e1 : m'.rules = m.rules) (e2 : m'.schools = m.schools) (e3 : m'.offers = m.offers)
    (k : ∀ H1, StAt A H1 L m' → Fr H H1 (foot L) (foot L) → D.nx σ H1) : sFldAug K ta tv L2.rAdd f D σ H :=
  q_aug_add ha hv h.st X.cl_St n l (by show 7 < 1000; decide) fun H1 dx e1' _ => by
    rw [pt]
    exact k _ ((h.ex e1').setSt rfl ((h.ex e1').bd.eqm e1 e2 e3)) (Fr.exWrite e1' (foot_st L) fun _ q => .inl q)
/-- a school's field is written -/
theorem sch_out {H1 : Hp} {dx : Addr} {fs : List (Str × V)} (e : Ex H H1) (h : StAt A H L m) (e1 : L.ss[i]? = some a) : Fr H (upd H1 a (.ins A.Sc dx fs)) (foot L) (foot L) := Fr.exWrite e (foot_ss (List.mem_of_getElem? e1)) fun _ q => .inl q
theorem w_sc (X : Tx K mg A) (h : StAt A H L m) (hi : L.ss[i]? = some a) (hs : At H a A.Sc (msF s)) (hv : Ev tv σ H v) (ha : Ev ta σ H (.ref a)) (n : NoAttr K A.Sc f) (pt : putF f v (msF s) = msF s')
    (k : ∀ H1, StAt A H1 L { m with schools := m.schools.set i s' } → At H1 a A.Sc (msF s') → Fr H H1 (foot L) (foot L) → D.nx σ H1) : sFld K ta tv f D σ H :=
  q_st hv ha hs X.cl_Sc n (by show 9 < 1000; decide) fun H1 dx e1' _ => by
    rw [pt]
    exact k _ ((h.ex e1').setSch hi s') ⟨dx, upd_same⟩ (sch_out e1' h hi)
theorem w_scA (X : Tx K mg A) (h : StAt A H L m) (hi : L.ss[i]? = some a) (hs : At H a A.Sc (msF s)) (ha : Ev ta σ H (.ref a)) (hv : Ev tv σ H (.int j)) (n : NoAttr K A.Sc f) (l : (msF s).lookup f = some (.int x)) (pt : putF f (.int (x + j)) (msF s) = msF s')
    (k : ∀ H1, StAt A H1 L { m with schools := m.schools.set i s' } → At H1 a A.Sc (msF s') → Fr H H1 (foot L) (foot L) → D.nx σ H1) : sFldAug K ta tv L2.rAdd f D σ H :=
  q_aug_add ha hv hs X.cl_Sc n l (by show 9 < 1000; decide) fun H1 dx e1' _ => by
    rw [pt]
    exact k _ ((h.ex e1').setSch hi s') ⟨dx, upd_same⟩ (sch_out e1' h hi)
theorem w_scS (X : Tx K mg A) (h : StAt A H L m) (hi : L.ss[i]? = some a) (hs : At H a A.Sc (msF s)) (ha : Ev ta σ H (.ref a)) (hv : Ev tv σ H (.int j)) (n : NoAttr K A.Sc f) (l : (msF s).lookup f = some (.int x)) (pt : putF f (.int (x - j)) (msF s) = msF s')
    (k : ∀ H1, StAt A H1 L { m with schools := m.schools.set i s' } → At H1 a A.Sc (msF s') → Fr H H1 (foot L) (foot L) → D.nx σ H1) : sFldAug K ta tv L2.rSub f D σ H :=
  q_aug_sub ha hv hs X.cl_Sc n l (by show 9 < 1000; decide) fun H1 dx e1' _ => by
    rw [pt]
    exact k _ ((h.ex e1').setSch hi s') ⟨dx, upd_same⟩ (sch_out e1' h hi)
/-- the offers are another list -/
theorem StAt.newOl (h : StAt A H L m) {p dx : Addr} {as : List Addr} {os : List MO} (hp : H p = some (.lst (refs as))) (ho : Objs H A.Of moF as os) (np : p ∉ foot L) :
    StAt A (upd H L.st (.ins A.St dx (stF { L with ol := p, os := as } { m with offers := os }))) { L with ol := p, os := as } { m with offers := os } := by
  refine h.setSt (L' := { L with ol := p, os := as }) (m' := { m with offers := os }) rfl (h.bd.newOl hp ho (fun z => np (by rw [← z]; exact foot_sl L)) fun z => np (mem_foot.mpr (.inr (mem_bfoot.mpr (.inr (.inr (.inr (.inl z))))))))
theorem foot_newOl {p b : Addr} {as : List Addr} (h : b ∈ foot { L with ol := p, os := as }) : b ∈ foot L ∨ b = p ∨ b ∈ as := by
  rcases mem_foot.mp h with e | e
  · exact .inl (mem_foot.mpr (.inl e))
  · rcases mem_bfoot.mp e with q | q | q | q | q | q
    · exact .inl (mem_foot.mpr (.inr (mem_bfoot.mpr (.inl q))))
    · exact .inl (mem_foot.mpr (.inr (mem_bfoot.mpr (.inr (.inl q)))))
    · exact .inr (.inl q)
    · exact .inl (mem_foot.mpr (.inr (mem_bfoot.mpr (.inr (.inr (.inr (.inl q)))))))
    · exact .inl (mem_foot.mpr (.inr (mem_bfoot.mpr (.inr (.inr (.inr (.inr (.inl q))))))))
    · exact .inr (.inr q)
theorem foot_of {b : Addr} (h : b ∈ L.os) : b ∈ foot L := mem_foot.mpr (.inr (mem_bfoot.mpr (.inr (.inr (.inr (.inr (.inr h)))))))
end
/-! ### a night -/
theorem find_map (l : List MS) (n : Int) : l.findIdx? (fun s => s.number == n) = (l.map MS.number).findIdx? (fun x => x == n) := by rw [List.findIdx?_map]; rfl
theorem set_number (l : List MS) (i : Nat) (s : MS) (h : s.number = (l.getD i MS.zero).number) : (l.set i s).map MS.number = l.map MS.number := by
  apply List.ext_getElem?
  intro j
  rw [List.getElem?_map, List.getElem?_map]
  by_cases c : i = j
  · subst c
    by_cases b : i < l.length
    · rw [List.getElem?_set_self b, List.getElem?_eq_getElem b]
      rw [List.getD_eq_getElem?_getD, List.getElem?_eq_getElem b] at h
      exact congrArg some h
    · rw [List.getElem?_eq_none (by rw [List.length_set]; omega), List.getElem?_eq_none (by omega)]
  · rw [List.getElem?_set_ne c]
theorem lapse_numbers (answer day : Int) : ∀ (os : List MO) (x : List MS × List MO), (os.foldl (lapseStep answer day) x).1.map MS.number = x.1.map MS.number
  | [], x => rfl
  | o :: r, x => by
    rw [List.foldl_cons, lapse_numbers answer day r]
    unfold lapseStep
    split
    · split
      · exact set_number _ _ _ rfl
      · rfl
    · rfl
def lapseTo (m : M) (i : Nat) : List MS × List MO := (m.offers.take i).foldl (lapseStep m.rules.answer m.day) (m.schools, [])
theorem lapseTo_succ {m : M} {i : Nat} {o : MO} (h : m.offers[i]? = some o) : lapseTo m (i + 1) = lapseStep m.rules.answer m.day (lapseTo m i) o := by
  unfold lapseTo
  rw [List.take_succ, h, List.foldl_append]
  rfl
theorem lapseTo_all (m : M) {i : Nat} (h : m.offers.length ≤ i) : lapseTo m i = m.offers.foldl (lapseStep m.rules.answer m.day) (m.schools, []) := by
  unfold lapseTo
  rw [List.take_of_length_le h]
section
variable {P : Program} {w : World} {K : PySem.W.Frag} {mg : Str → Option Value} {base : Heap} {A : Ads}
def sp_St_take_away (K : PySem.W.Frag) (A : Ads) : Sp := fun vs H Q _ => ∃ (L : Lay) (m : M) (a : Addr) (o : MO), vs = [.ref L.st, .ref a] ∧ StAt A H L m ∧ m.offers.length ≤ 60 ∧ At H a A.Of (moF o) ∧ ∀ H' L', StAt A H' L' (m.takeAway o.number) → L'.st = L.st → L'.ss = L.ss → Fr H H' (foot L) (foot L') → Q .non H'
theorem ok_St_take_away (X : Tx K mg A) : Okd P w K mg base CX0 1 A.St_take_away ["self", "offer"] (sp_St_take_away K A) := by
  obtain ⟨fd, F⟩ := X.fn_St_take_away
  refine ⟨fd, F.ok sc_St_take_away (fun vs H Q E h => ?_) (fun cdv A' outer s H vs Q E hr h => ⟨_, (pss_one (ps_fld (pv 0) (pe_lc (own := [("other", 2)]) (g := gName 2) (tt := (tTest (tOp rNe (tFld K (tVar 2) "number") (tFld K (tVar 1) "number")))) rfl sc_St_take_away.nd (pi_list (pe_fld (pv 0) rfl)) (blkOk_by (N := ["self", "offer", "other"]) (sc := defScope s_St_take_away) (own := [("other", 2)]) (by decide +kernel)) (fun _ _ _ _ _ => pg_name (i := 2) sc_St_take_away.nd rfl (.inl rfl)) (fun _ _ _ _ _ => (pts_one (pt_cmpR op_ne (pe_fld (pv 2) rfl) (pe_fld (pv 1) rfl) (nomark _)))) (fun _ _ _ _ _ => (pv 2))) rfl)), ?_⟩), F.binds fun _ _ _ _ _ _ us hl => match us, hl with | [_, _], _ => rfl⟩
  · obtain ⟨_, _, _, _, rfl, _⟩ := h
    rfl
  · obtain ⟨L, m, a, o, rfl, h, hz, ho, k⟩ := h
    have hl := h.bd.os.len
    have hx : SqL K H L.ol ((L.os.zip m.offers).map fun p => V.ref p.1) := by rw [← zip_refs hl]; exact SqL.of h.bd.ol
    have ev := el_lcM (K := K) (tl := tFld K (tVar 0) "offers") (t := tTest (tOp rNe (tFld K (tVar 2) "number") (tFld K (tVar 1) "number"))) (te := tVar 2) (σ := start ["self", "offer", "other"] [.ref L.st, .ref a]) (j := 2) (vs := [2]) (0, MO.zero) (fun p => !(p.2.number == o.number)) (fun p => V.ref p.1) (ev_St_offers X h.st (ev_var rfl)) hx (by rw [List.length_zip, hl]; omega) (fun _ => rfl)
      (fun p i H1 e hp => et_is (et_test (ev_neI (ev_Of_number X ((h.bd.os.zip hp).ex e) (ev_var rfl)) (ev_Of_number X (ho.ex e) (ev_var rfl)))) (by rw [Bool.beq_eq_decide_eq])) (fun p i H1 e hp _ => ev_var rfl)
    generalize hF : (L.os.zip m.offers).filter (fun p => !(p.2.number == o.number)) = F at ev
    have e2 : F.map (fun p => V.ref p.1) = refs (F.map fun p => p.1) := by unfold refs; rw [List.map_map]; rfl
    rw [e2] at ev
    have e3 : F.map (fun p => p.2) = m.offers.filter fun o' => !(o'.number == o.number) := by rw [← hF]; exact zip_filter hl (fun o' => !(o'.number == o.number))
    refine q_stL ev (ev_var rfl) h.st X.cl_St X.na_St_offers (by show 7 < 1000; decide) fun p H1 dx hp e1 l1 _ => ?_
    rw [pt_St_offers]
    have h1 := h.ex e1
    have np : p ∉ foot L := h.nofoot hp
    have hsub : ∀ q ∈ F, ∃ i, (L.os.zip m.offers)[i]? = some q := fun q hq => by
      rw [← hF] at hq
      exact get_of_mem (List.mem_filter.mp hq).1
    have hobj : Objs H1 A.Of moF (F.map fun p => p.1) (F.map fun p => p.2) := ⟨by rw [List.length_map, List.length_map], fun i b x hb hx => by
      rw [List.getElem?_map] at hb hx
      cases hq : F[i]? with
      | none => rw [hq] at hb; cases hb
      | some q =>
        rw [hq] at hb hx
        obtain ⟨j, hj⟩ := hsub q (List.mem_of_getElem? hq)
        cases hb
        cases hx
        exact (h.bd.os.zip hj).ex e1⟩
    rw [e3] at hobj
    refine k _ { L with ol := p, os := F.map fun p => p.1 } (h1.newOl (os := m.offers.filter fun o' => !(o'.number == o.number)) l1 hobj np) rfl rfl (Fr.exWrite e1 (foot_st L) fun b hb => ?_)
    rcases foot_newOl hb with q | q | q
    · exact .inl q
    · exact .inr (q ▸ hp)
    · obtain ⟨y, hy, rfl⟩ := List.mem_map.mp q
      obtain ⟨j, hj⟩ := hsub y hy
      exact .inl (foot_of (List.mem_of_getElem? (zip_get hj).1))
def sp_St_pass_night (K : PySem.W.Frag) (A : Ads) : Sp := fun vs H Q _ => ∃ (L : Lay) (m : M), vs = [.ref L.st] ∧ StAt A H L m ∧ Good m ∧ ∀ H' L', StAt A H' L' m.passNight → L'.st = L.st → Fr H H' (foot L) (foot L') → Q .non H'
theorem ok_St_pass_night (X : Tx K mg A) : Okd P w K mg base CX0 5 A.St_pass_night ["self"] (sp_St_pass_night K A) := by
  obtain ⟨fd_St_make_offers, G_St_make_offers, b_St_make_offers⟩ := ok_St_make_offers (P := P) (w := w) (base := base) X
  obtain ⟨fd_St_school_at, G_St_school_at, b_St_school_at⟩ := ok_St_school_at (P := P) (w := w) (base := base) X
  obtain ⟨fd, F⟩ := X.fn_St_pass_night
  refine ⟨fd, F.ok sc_St_pass_night (fun vs H Q E h => ?_) (fun cdv A' outer s H vs Q E hr h => ⟨_, (pss_cons (ps_fldaug (pv 0) pe_int in_add)
    (pss_cons (ps_set (i := 1) sc_St_pass_night.nd rfl (Or.inl rfl) (pe_lst pa_nil))
    (pss_cons (ps_for (PassesOwn.never) rfl (pi_list (pe_fld (pv 0) rfl)) (pg_name (i := 2) sc_St_pass_night.nd rfl (Or.inl rfl))
      (pss_one (ps_if (pt_cmpR op_lt (pe_op op_add (pe_fld (pv 2) rfl) (pe_ix ix_list (pe_fld (pe_fld (pv 0) rfl) rfl) pe_int (fun _ _ => rfl))) (pe_fld (pv 0) rfl) (nomark _))
        (pss_cons (ps_set (i := 3) sc_St_pass_night.nd rfl (Or.inl rfl) (pe_meth (pv 0) X.cl_St X.m_St_school_at G_St_school_at (hr.mono (by decide)) b_St_school_at .nil pass0 (pa_cons (pe_fld (pv 2) rfl) pa_nil)))
        (pss_one (ps_fldaug (pv 3) pe_int in_sub)))
        (pss_one (ps_expr (pe_bm PySem.F.plainAttrs_list PySem.F.slot_list_append PySem.F.type_list_append mt_append (pv 1) (pa_cons (pv 2) pa_nil)))))))
    (pss_cons (ps_fld (pv 0) (pv 1) rfl)
    (pss_one (ps_if (pt_not (pt_val (pe_fld (pv 0) rfl)))
      (pss_one (ps_expr (pe_meth0 (pv 0) X.cl_St X.m_St_make_offers G_St_make_offers (hr.mono (by decide)) b_St_make_offers .nil pass0)))
      pss_nil)))))), ?_⟩), F.binds fun _ _ _ _ _ _ us hl => match us, hl with | [_], _ => rfl⟩
  · obtain ⟨_, _, rfl, _⟩ := h
    rfl
  · obtain ⟨L, m, rfl, h, g, k⟩ := h
    have b := g.bounds
    refine w_stA X h (ev_var rfl) ev_c X.na_St_day (lk_St_day _ _) (pt_St_day _ _ _) rfl rfl rfl fun H1 h1 f1 => ?_
    generalize hm1 : ({ m with day := m.day + 1 } : M) = m1 at h1
    have o1 : m1.offers = m.offers := by rw [← hm1]
    have s1 : m1.schools = m.schools := by rw [← hm1]
    refine q_asgL (el_lst ea_nil (by decide)) fun p H2 hp e2 l2 => ?_
    have h2 := h1.ex e2
    have np : p ∉ foot L := h1.nofoot hp
    have f2 := f1.ex e2
    have hpH : H p = none := by
      cases q : H p with
      | none => rfl
      | some o => rw [f1.keep p o q np] at hp; cases hp
    refine q_forLn (ev_St_offers X h2.st (ev_var rfl)) (SqL.of h2.bd.ol) (fun i σ' H' => (∃ v u, σ' = [some (.ref L.st), some (.ref p), v, u]) ∧ StAt A H' L { m1 with schools := (lapseTo m1 i).1 } ∧ Fr H H' (foot L) (foot L) ∧ ∃ sa, H' p = some (.lst (refs sa)) ∧ Objs H' A.Of moF sa (lapseTo m1 i).2 ∧ (∀ b ∈ sa, b ∈ L.os) ∧ sa.length ≤ i)
      (fun H3 e3 => ⟨⟨_, _, rfl⟩, h2.ex e3, f2.ex e3, [], e3 _ _ l2, ⟨rfl, fun i a x h1 _ => by cases h1⟩, (fun b hb => by cases hb), Nat.zero_le _⟩) (fun i σ' H' _ p => SqL.of p.2.1.bd.ol) (fun i x σ' H' hx p => ?_) fun σ' H' p => ?_
    · obtain ⟨⟨v, u, rfl⟩, h', f', sa, lp, so, hsub, hlen⟩ := p
      have hx' : (L.os.map V.ref)[i]? = some x := hx
      obtain ⟨a, ha, rfl⟩ : ∃ a, L.os[i]? = some a ∧ x = V.ref a := by
        rw [List.getElem?_map] at hx'
        cases q : L.os[i]? with
        | none => rw [q] at hx'; cases hx'
        | some a => rw [q] at hx'; exact ⟨a, rfl, (Option.some.inj hx').symm⟩
      obtain ⟨o, ho⟩ := get_len h'.bd.os.len ha
      have ho1 : m1.offers[i]? = some o := ho
      have hat := h'.bd.os.ob i a o ha ho
      rw [lapseTo_succ ho1]
      refine s_if (b := decide (o.day + m1.rules.answer < m1.day)) (et_test (ev_i0 (ev_i0 (ev_Of_day X hat (ev_var rfl)) (ev_ix0 (ev_Ru_answer X h'.bd.ru.ob (ev_St_rules X h'.st (ev_var rfl))) h'.bd.ru.answer)) (ev_St_day X h'.st (ev_var rfl)))) (fun hb H3 e3 => ?_) (fun hb H3 e3 => ?_)
      · have hb' := of_decide_eq_true hb
        have h3 := h'.ex e3
        obtain ⟨j, hj, hjl⟩ := b.has o (by rw [← o1]; exact List.mem_of_getElem? ho1)
        have hfind : ({ m1 with schools := (lapseTo m1 i).1 } : M).find o.school = some j := by
          unfold M.find
          show (lapseTo m1 i).1.findIdx? _ = _
          rw [find_map]
          unfold lapseTo
          rw [lapse_numbers]
          show (m1.schools.map MS.number).findIdx? _ = _
          rw [s1, ← find_map]
          exact hj
        have hlenS : (lapseTo m1 i).1.length = m.schools.length := by
          have := congrArg List.length (lapse_numbers m1.rules.answer m1.day (m1.offers.take i) (m1.schools, []))
          rw [List.length_map, List.length_map] at this
          rw [← s1]
          exact this
        obtain ⟨sa2, hsa2, hs⟩ := h3.sch_get (i := j) (by show j < (lapseTo m1 i).1.length; omega)
        have hgd : L.ss.getD j 0 = sa2 := getD_of hsa2
        refine q_asg (v := .ref sa2) (ev_meth (ev_var rfl) h3.st (no_St_school_at _ _) (ea_cons (ev_Of_school X (hat.ex e3) (ev_var rfl)) ea_nil) fun H4 e4 Q' q E' => ⟨L, _, o.school, rfl, h3.ex e4, ?_⟩) fun H4 e4 => ?_
        · rw [hfind]
          show RetV (.ref (L.ss.getD j 0)) H4 Q'
          rw [hgd]
          exact q
        · have h4 := h3.ex e4
          refine w_scS X h4 hsa2 (hs.ex e4) (ev_var rfl) ev_c X.na_Sc_wanted (lk_Sc_wanted _) (pt_Sc_wanted _ _) fun H5 h5 _ f5 => ?_
          have e : lapseStep m1.rules.answer m1.day (lapseTo m1 i) o = ((lapseTo m1 i).1.set j { (lapseTo m1 i).1.getD j MS.zero with wanted := ((lapseTo m1 i).1.getD j MS.zero).wanted - 1 }, (lapseTo m1 i).2) := by
            unfold lapseStep
            rw [if_pos hb']
            have q : (lapseTo m1 i).1.findIdx? (fun s => s.number == o.school) = some j := hfind
            rw [q]
          rw [e]
          have keepo : ∀ c t, H4 c = some t → c ≠ sa2 → H5 c = some t → True := fun _ _ _ _ _ => trivial
          refine ⟨⟨_, _, rfl⟩, h5, ((f'.ex e3).ex e4).trans f5, sa, ?_, ?_, hsub, by omega⟩
          · exact f5.keep p _ (e4 _ _ (e3 _ _ lp)) np
          · refine ⟨so.len, fun c bb xx h1 h2 => ?_⟩
            obtain ⟨z, hz⟩ := get_of_mem (hsub bb (List.mem_of_getElem? h1))
            obtain ⟨oz, hoz⟩ := get_len h5.bd.os.len hz
            have q1 := h5.bd.os.ob z bb oz hz hoz
            have q2 := ((h4.bd.os.ob z bb oz hz hoz))
            have q3 := ((so.ob c bb xx h1 h2).ex e3).ex e4
            obtain ⟨d1, r1⟩ := q2
            obtain ⟨d2, r2⟩ := q3
            rw [r1] at r2
            injection r2 with r2
            injection r2 with _ _ r3
            rw [← r3]
            exact q1
      · have hb' := of_decide_eq_false hb
        have e : lapseStep m1.rules.answer m1.day (lapseTo m1 i) o = ((lapseTo m1 i).1, (lapseTo m1 i).2 ++ [o]) := by
          unfold lapseStep
          rw [if_neg hb']
        rw [e]
        have h3 := h'.ex e3
        have hil : i < L.os.length := (List.getElem?_eq_some_iff.mp ha).1
        have holen : L.os.length ≤ 60 := by
          have := h'.bd.os.len
          have q : ({ m1 with schools := (lapseTo m1 i).1 } : M).offers = m.offers := o1
          rw [q] at this
          have := b.offs
          omega
        refine s_app (e3 _ _ lp) (ev_var rfl) (ev_var rfl) (by unfold refs; rw [List.length_map]; omega) fun H4 e4 => ?_
        have h4 := h3.ex e4
        refine ⟨⟨_, _, rfl⟩, ⟨h4.st.off fun z => np (by rw [← z]; exact foot_st L), h4.bd.off fun z => np (mem_foot.mpr (.inr z))⟩, ⟨fun c t hc nc => ?_, f'.new⟩, sa ++ [a], ?_, ?_, fun c hc => ?_, by rw [List.length_append]; show sa.length + 1 ≤ i + 1; omega⟩
        · have n : c ≠ p := ne_of_none hc hpH
          rw [upd_ne n]
          exact e4 _ _ (e3 _ _ (f'.keep c t hc nc))
        · rw [upd_same]
          unfold refs
          rw [List.map_append]
          rfl
        · have noff : ∀ c ∈ L.os, c ≠ p := fun c hc z => np (by rw [← z]; exact foot_of hc)
          refine ⟨by rw [List.length_append, List.length_append, so.len]; rfl, fun c bb xx h1 h2 => ?_⟩
          by_cases cc : c < sa.length
          · rw [List.getElem?_append_left cc] at h1
            rw [List.getElem?_append_left (by rw [← so.len]; exact cc)] at h2
            exact (((so.ob c bb xx h1 h2).ex e3).ex e4).off (noff bb (hsub bb (List.mem_of_getElem? h1)))
          · rw [List.getElem?_append_right (by omega)] at h1
            rw [List.getElem?_append_right (by rw [← so.len]; omega), ← so.len] at h2
            have e0 : c - sa.length = 0 := by
              have : c - sa.length < 1 := (List.getElem?_eq_some_iff.mp h1).1
              omega
            rw [e0] at h1 h2
            cases h1
            cases h2
            exact ((hat.ex e3).ex e4).off (noff _ (List.mem_of_getElem? ha))
        · rcases List.mem_append.mp hc with q | q
          · exact hsub c q
          · have : c = a := by simpa using q
            rw [this]
            exact List.mem_of_getElem? ha
    · obtain ⟨⟨v, u, rfl⟩, h', f', sa, lp, so, hsub, hlen⟩ := p
      have hlo : (refs L.os).length = m1.offers.length := by
        unfold refs
        rw [List.length_map]
        exact h'.bd.os.len
      rw [hlo, lapseTo_all m1 (Nat.le_refl _)] at h' so
      refine q_st (ev_var rfl) (ev_var rfl) h'.st X.cl_St X.na_St_offers (by show 7 < 1000; decide) fun H3 dx e3 _ => ?_
      rw [pt_St_offers]
      have h4 := (h'.ex e3).newOl (dx := dx) (e3 _ _ lp) (so.ex e3) np
      have f4 : Fr H (upd H3 L.st (.ins A.St dx (stF { L with ol := p, os := sa } (M.lapse m1)))) (foot L) (foot { L with ol := p, os := sa }) := by
        refine ⟨fun c t hc nc => ?_, fun c hc => ?_⟩
        · have n : c ≠ L.st := fun z => nc (by rw [z]; exact foot_st L)
          rw [upd_ne n]
          exact e3 _ _ (f'.keep c t hc nc)
        · rcases foot_newOl hc with q | q | q
          · exact .inl q
          · exact .inr (q ▸ hpH)
          · exact .inl (foot_of (hsub c q))
      have gl := g.lapsed
      rw [hm1] at gl
      have hpn : m.passNight = if (M.lapse m1).closed = true then M.lapse m1 else (M.lapse m1).makeOffers := by
        unfold M.passNight
        rw [hm1]
      have h4' : StAt A (upd H3 L.st (.ins A.St dx (stF { L with ol := p, os := sa } (M.lapse m1)))) { L with ol := p, os := sa } (M.lapse m1) := h4
      have e0 : stF { L with ol := p } { m1 with schools := (m1.offers.foldl (lapseStep m1.rules.answer m1.day) (m1.schools, [])).1 } = stF { L with ol := p, os := sa } (M.lapse m1) := rfl
      rw [e0]
      generalize upd H3 L.st (.ins A.St dx (stF { L with ol := p, os := sa } (M.lapse m1))) = H4 at h4' f4 ⊢
      have st4 : At H4 L.st A.St (stF { L with ol := p, os := sa } (M.lapse m1)) := h4'.st
      refine s_when (b := !(M.lapse m1).closed) (et_not (et_B (ev_St_is_closed X st4 (ev_var rfl)))) (fun hb H5 e5 => ?_) (fun hb H5 e5 => ?_)
      · have st5 : At H5 L.st A.St (stF { L with ol := p, os := sa } (M.lapse m1)) := (h4'.ex e5).st
        refine q_meth (ev_var rfl) st5 (no_St_make_offers _ _) ea_nil fun H6 e6 => ⟨{ L with ol := p, os := sa }, M.lapse m1, rfl, (h4'.ex e5).ex e6, gl, fun H7 L7 h7 s7 f7 => ?_⟩
        rw [hpn, if_neg (by intro z; rw [z] at hb; cases hb)] at k
        exact k H7 L7 h7 s7 (((f4.ex e5).ex e6).trans f7)
      · have hc : (M.lapse m1).closed = true := by
          cases q : (M.lapse m1).closed with
          | true => rfl
          | false => rw [q] at hb; cases hb
        rw [hpn, if_pos hc] at k
        exact k H5 _ (h4'.ex e5) rfl (f4.ex e5)
def sp_St_close (K : PySem.W.Frag) (A : Ads) : Sp := fun vs H Q _ => ∃ (L : Lay) (m : M), vs = [.ref L.st] ∧ StAt A H L m ∧ Bounds m ∧ ∀ H' L', StAt A H' L' m.closeAll → L'.st = L.st → L'.ss = L.ss → Fr H H' (foot L) (foot L') → Q .non H'
theorem ok_St_close (X : Tx K mg A) : Okd P w K mg base CX0 3 A.St_close ["self"] (sp_St_close K A) := by
  obtain ⟨fd_St_missing, G_St_missing, b_St_missing⟩ := ok_St_missing (P := P) (w := w) (base := base) X
  obtain ⟨fd, F⟩ := X.fn_St_close
  refine ⟨fd, F.ok sc_St_close (fun vs H Q E h => ?_) (fun cdv A' outer s H vs Q E hr h => ⟨_, (pss_cons (ps_fld (pv 0) pe_bl rfl)
    (pss_cons (ps_fld (pv 0) (pe_lst pa_nil) rfl)
    (pss_one (ps_for (PassesOwn.never) rfl (pi_list (pe_fld (pv 0) rfl)) (pg_name (i := 1) sc_St_close.nd rfl (Or.inl rfl))
      (pss_cons (ps_set (i := 2) sc_St_close.nd rfl (Or.inl rfl) (pe_op op_mul (pe_meth (pv 0) X.cl_St X.m_St_missing G_St_missing (hr.mono (by decide)) b_St_missing .nil pass0 (pa_cons (pv 1) pa_nil)) (pe_ix ix_list (pe_fld (pe_fld (pv 0) rfl) rfl) pe_int (fun _ _ => rfl))))
      (pss_one (ps_if (pt_cmpR op_gt (pv 2) pe_int (nomark _))
        (pss_cons (ps_fldaug (pv 1) (pv 2) in_add)
        (pss_one (ps_fldaug (pv 0) pe_int in_add)))
        pss_nil))))))), ?_⟩), F.binds fun _ _ _ _ _ _ us hl => match us, hl with | [_], _ => rfl⟩
  · obtain ⟨_, _, rfl, _⟩ := h
    rfl
  · obtain ⟨L, m, rfl, h, b, k⟩ := h
    refine w_st X h ev_c (ev_var rfl) X.na_St_is_closed (pt_St_is_closed _ _ _) rfl rfl rfl fun H1 h1 f1 => ?_
    generalize hm1 : ({ m with closed := true } : M) = m1 at h1
    have r1 : m1.rules = m.rules := by rw [← hm1]
    have s1 : m1.schools = m.schools := by rw [← hm1]
    have en1 : m1.entries = m.entries := by rw [← hm1]
    have d1 : m1.day = m.day := by rw [← hm1]
    have c1 : m1.closed = true := by rw [← hm1]
    have q1 : m1.made = m.made := by rw [← hm1]
    refine q_stL (el_lst ea_nil (by decide)) (ev_var rfl) h1.st X.cl_St X.na_St_offers (by show 7 < 1000; decide) fun p H2 dx hp e2 l2 _ => ?_
    rw [pt_St_offers]
    have h2 := h1.ex e2
    have np : p ∉ foot L := h1.nofoot hp
    have hpH : H p = none := by
      cases q : H p with
      | none => rfl
      | some o => rw [f1.keep p o q np] at hp; cases hp
    have h3 : StAt A _ { L with ol := p, os := [] } { m1 with offers := [] } := h2.newOl (dx := dx) (as := []) (os := []) l2 ⟨rfl, fun i a x h1 _ => by cases h1⟩ np
    have f3 : Fr H (upd H2 L.st (.ins A.St dx (stF { L with ol := p, os := [] } { m1 with offers := [] }))) (foot L) (foot { L with ol := p, os := [] }) := by
      refine ⟨fun c t hc nc => ?_, fun c hc => ?_⟩
      · have n : c ≠ L.st := fun z => nc (by rw [z]; exact foot_st L)
        rw [upd_ne n]
        exact e2 _ _ (f1.keep c t hc nc)
      · rcases foot_newOl hc with q | q | q
        · exact .inl q
        · exact .inr (q ▸ hpH)
        · cases q
    have e0 : upd H2 L.st (.ins A.St dx (stF { L with ol := p } m1)) = upd H2 L.st (.ins A.St dx (stF { L with ol := p, os := [] } { m1 with offers := [] })) := rfl
    rw [e0]
    generalize upd H2 L.st (.ins A.St dx (stF { L with ol := p, os := [] } { m1 with offers := [] })) = H3 at h3 f3
    subst hm1
    refine s_forLn (ev_St_schools X h3.st (ev_var rfl)) (SqL.of h3.bd.sl) (fun i σ' H' => (∃ v u, σ' = [some (.ref L.st), v, u]) ∧ StAt A H' { L with ol := p, os := [] } { m with closed := true, offers := [], schools := (m.schools.take i).map m.rules.charge ++ m.schools.drop i, entries := m.entries + (((m.schools.take i).filter fun s => decide (m.rules.fined s > 0)).length : Nat) } ∧ Fr H H' (foot L) (foot { L with ol := p, os := [] }))
      (fun H4 e4 => ⟨⟨_, _, rfl⟩, ?_, f3.ex e4⟩) (fun i σ' H' _ p => SqL.of p.2.1.bd.sl) (fun i x σ' H' hx p => ?_) fun σ' H' p => ?_
    · have e : ({ m with closed := true, offers := [], schools := (m.schools.take 0).map m.rules.charge ++ m.schools.drop 0, entries := m.entries + (((m.schools.take 0).filter fun s => decide (m.rules.fined s > 0)).length : Nat) } : M) = { m with closed := true, offers := [] } := by
        simp
      rw [e]
      exact h3.ex e4
    · obtain ⟨⟨v, u, rfl⟩, h', f'⟩ := p
      have hx' : (L.ss.map V.ref)[i]? = some x := hx
      obtain ⟨a, ha, rfl⟩ : ∃ a, L.ss[i]? = some a ∧ x = V.ref a := by
        rw [List.getElem?_map] at hx'
        cases q : L.ss[i]? with
        | none => rw [q] at hx'; cases hx'
        | some a => rw [q] at hx'; exact ⟨a, rfl, (Option.some.inj hx').symm⟩
      obtain ⟨s, hs0⟩ := get_len h.bd.ss.len ha
      have hi : i < m.schools.length := (List.getElem?_eq_some_iff.mp hs0).1
      have hs1 : ((m.schools.take i).map m.rules.charge ++ m.schools.drop i)[i]? = some s := by
        rw [List.getElem?_append_right (by rw [List.length_map, List.length_take]; omega), List.length_map, List.length_take, List.getElem?_drop]
        rw [← hs0]
        congr 1
        omega
      have hat := h'.bd.ss.ob i a s ha hs1
      have tk : m.schools.take (i + 1) = m.schools.take i ++ [s] := by rw [List.take_succ, hs0]; rfl
      have dr : m.schools.drop i = s :: m.schools.drop (i + 1) := by
        rw [List.drop_eq_getElem_cons hi]
        rw [List.getElem?_eq_getElem hi] at hs0
        rw [Option.some.inj hs0]
      have htl : ((m.schools.take i).map m.rules.charge).length = i := by rw [List.length_map, List.length_take]; omega
      refine q_asg (v := .int (m.rules.fined s)) (ev_iC (ev_meth (ev_var rfl) h'.st (no_St_missing _ _) (ea_cons (ev_var rfl) ea_nil) fun H4 e4 Q' q E' => ⟨{ L with ol := p, os := [] }, _, a, s, rfl, h'.ex e4, ⟨b.each, b.many⟩, hat.ex e4, q⟩) (ev_ix0 (ev_Ru_fine X h'.bd.ru.ob (ev_St_rules X h'.st (ev_var rfl))) h'.bd.ru.fine) (.inr ?_)) fun H4 e4 => ?_
      · have := b.fine
        exact ⟨by omega, by omega⟩
      have h4 := h'.ex e4
      refine s_when (b := decide (m.rules.fined s > 0)) (et_test (ev_i0 (ev_var rfl) ev_c)) (fun hb H5 e5 => ?_) (fun hb H5 e5 => ?_)
      · have h5 := h4.ex e5
        refine w_scA (i := i) X h5 ha ((hat.ex e4).ex e5) (ev_var rfl) (ev_var rfl) X.na_Sc_fines (lk_Sc_fines _) (pt_Sc_fines _ _) fun H6 h6 _ f6 => ?_
        refine w_stA X h6 (ev_var rfl) ev_c X.na_St_entries (lk_St_entries _ _) (pt_St_entries _ _ _) rfl rfl rfl fun H7 h7 f7 => ?_
        refine ⟨⟨_, _, rfl⟩, ?_, (((f'.ex e4).ex e5).trans f6).trans f7⟩
        rw [tk, List.map_append, List.filter_append]
        have ec : m.rules.charge s = { s with fines := s.fines + m.rules.fined s } := by
          unfold MR.charge
          rw [if_pos (of_decide_eq_true hb)]
        have e : ((m.schools.take i).map m.rules.charge ++ m.schools.drop i).set i { s with fines := s.fines + m.rules.fined s } = (m.schools.take i).map m.rules.charge ++ [m.rules.charge s] ++ m.schools.drop (i + 1) := by
          rw [dr, List.set_append, if_neg (by omega), htl, Nat.sub_self, ec, List.append_assoc]
          rfl
        have e2 : m.entries + (((m.schools.take i).filter (fun s => decide (m.rules.fined s > 0)) ++ [s].filter fun s => decide (m.rules.fined s > 0)).length : Nat) = m.entries + (((m.schools.take i).filter fun s => decide (m.rules.fined s > 0)).length : Nat) + 1 := by
          have : [s].filter (fun s => decide (m.rules.fined s > 0)) = [s] := by rw [List.filter_cons, if_pos hb]; rfl
          rw [this, List.length_append]
          show m.entries + ((_ + 1 : Nat) : Int) = _
          omega
        rw [e2]
        have h8 : StAt A H7 { L with ol := p, os := [] } { m with closed := true, offers := [], schools := ((m.schools.take i).map m.rules.charge ++ m.schools.drop i).set i { s with fines := s.fines + m.rules.fined s }, entries := m.entries + (((m.schools.take i).filter fun s => decide (m.rules.fined s > 0)).length : Nat) + 1 } := h7
        rw [e] at h8
        exact h8
      · refine ⟨⟨_, _, rfl⟩, ?_, (f'.ex e4).ex e5⟩
        rw [tk, List.map_append, List.filter_append]
        have ec : m.rules.charge s = s := by
          unfold MR.charge
          rw [if_neg (of_decide_eq_false hb)]
        have e : (m.schools.take i).map m.rules.charge ++ m.schools.drop i = (m.schools.take i).map m.rules.charge ++ [m.rules.charge s] ++ m.schools.drop (i + 1) := by
          rw [dr, ec, List.append_assoc]
          rfl
        have e2 : [s].filter (fun s => decide (m.rules.fined s > 0)) = [] := by rw [List.filter_cons, if_neg (by rw [hb]; decide)]; rfl
        rw [e2, List.append_nil]
        have h6 := h4.ex e5
        rw [e] at h6
        exact h6
    · obtain ⟨⟨v, u, rfl⟩, h', f'⟩ := p
      have hlo : (refs L.ss).length = m.schools.length := by
        unfold refs
        rw [List.length_map]
        exact h.bd.ss.len
      have ec : ({ m with closed := true, offers := [], schools := (m.schools.take (refs L.ss).length).map m.rules.charge ++ m.schools.drop (refs L.ss).length, entries := m.entries + (((m.schools.take (refs L.ss).length).filter fun s => decide (m.rules.fined s > 0)).length : Nat) } : M) = m.closeAll := by
        rw [hlo, List.take_length, List.drop_length, List.append_nil]
        rfl
      rw [ec] at h'
      exact k H' _ h' rfl rfl f'
end
end Eh

-- EhW5
set_option Elab.async false
set_option linter.all false
set_option maxRecDepth 100000
set_option maxHeartbeats 4000000
namespace Eh
open PySem PySem.Spec PyProof.Rows L2 EhR EhZ Evl
open Vbdbam (cut words)
/-! ### lists of texts -/
structure LLA (H : Hp) (as : List Addr) (ws : List (List Nat)) : Prop where
  len : as.length = ws.length
  ob : ∀ (i : Nat) (a : Addr) (w : List Nat), as[i]? = some a → ws[i]? = some w → H a = some (.lst (bys w))
theorem LLA.ex {H H' : Hp} {as : List Addr} {ws : List (List Nat)} (h : LLA H as ws) (e : Ex H H') : LLA H' as ws := ⟨h.len, fun i a w h1 h2 => e a _ (h.ob i a w h1 h2)⟩
theorem LLA.off {H : Hp} {as : List Addr} {ws : List (List Nat)} {b : Addr} {o : HO} (h : LLA H as ws) (hb : b ∉ as) : LLA (upd H b o) as ws := ⟨h.len, fun i a w h1 h2 => by
  have n : a ≠ b := fun z => hb (z ▸ List.mem_of_getElem? h1)
  rw [upd_ne n]
  exact h.ob i a w h1 h2⟩
theorem LLA.snoc {H : Hp} {as : List Addr} {ws : List (List Nat)} {a : Addr} {w : List Nat} (h : LLA H as ws) (ha : H a = some (.lst (bys w))) : LLA H (as ++ [a]) (ws ++ [w]) := ⟨by rw [List.length_append, List.length_append, h.len]; rfl, fun i b v h1 h2 => by
  by_cases c : i < as.length
  · rw [List.getElem?_append_left c] at h1
    rw [List.getElem?_append_left (by rw [← h.len]; exact c)] at h2
    exact h.ob i b v h1 h2
  · rw [List.getElem?_append_right (by omega)] at h1
    rw [List.getElem?_append_right (by rw [← h.len]; omega), ← h.len] at h2
    have e0 : i - as.length = 0 := by
      have : i - as.length < 1 := (List.getElem?_eq_some_iff.mp h1).1
      omega
    rw [e0] at h1 h2
    cases h1
    cases h2
    exact ha⟩
def RetLL (ws : List (List Nat)) (H : Hp) (Q : VK) : Prop := ∀ p H2 as, H p = none → Ex H H2 → H2 p = some (.lst (refs as)) → LLA H2 as ws → (∀ b ∈ as, H b = none) → Q (.ref p) H2
def cutStep (sep : Nat) (x : List (List Nat) × List Nat) (b : Nat) : List (List Nat) × List Nat := if b = sep then (x.1 ++ [x.2], []) else (x.1, x.2 ++ [b])
theorem cut_ne (sep : Nat) : ∀ l : List Nat, cut sep l ≠ []
  | [] => List.cons_ne_nil _ _
  | c :: r => by
    unfold cut
    split
    · exact List.cons_ne_nil _ _
    · split <;> exact List.cons_ne_nil _ _
theorem cut_fold (sep : Nat) : ∀ (l : List Nat) (d : List (List Nat)) (c : List Nat), (l.foldl (cutStep sep) (d, c)).1 ++ [(l.foldl (cutStep sep) (d, c)).2] = d ++ (match cut sep l with | [] => [c] | x :: t => (c ++ x) :: t)
  | [], d, c => by
    show d ++ [c] = d ++ [c ++ []]
    rw [List.append_nil]
  | b :: r, d, c => by
    rw [List.foldl_cons]
    by_cases hb : b = sep
    · have e : cutStep sep (d, c) b = (d ++ [c], []) := if_pos hb
      have e2 : cut sep (b :: r) = [] :: cut sep r := by
        conv => lhs; unfold cut
        exact if_pos hb
      rw [e, cut_fold sep r, e2]
      cases hc : cut sep r with
      | nil => exact absurd hc (cut_ne sep r)
      | cons x t =>
        show d ++ [c] ++ ([] ++ x) :: t = d ++ (c ++ []) :: x :: t
        simp
    · have e : cutStep sep (d, c) b = (d, c ++ [b]) := if_neg hb
      rw [e, cut_fold sep r]
      conv => rhs; unfold cut
      rw [if_neg hb]
      cases hc : cut sep r with
      | nil => exact absurd hc (cut_ne sep r)
      | cons x t =>
        show d ++ (c ++ [b] ++ x) :: t = d ++ (c ++ b :: x) :: t
        simp
theorem cut_all (sep : Nat) (l : List Nat) : (l.foldl (cutStep sep) ([], [])).1 ++ [(l.foldl (cutStep sep) ([], [])).2] = cut sep l := by
  rw [cut_fold]
  cases hc : cut sep l with
  | nil => exact absurd hc (cut_ne sep l)
  | cons x t => rfl
theorem bys_get {l : List Nat} {i : Nat} {x : V} (h : (bys l)[i]? = some x) : ∃ b, l[i]? = some b ∧ x = V.int (b : Int) := by
  unfold bys at h
  rw [List.getElem?_map] at h
  cases q : l[i]? with
  | none => rw [q] at h; cases h
  | some b => rw [q] at h; exact ⟨b, rfl, (Option.some.inj h).symm⟩
theorem refs_snoc (l : List Addr) (a : Addr) : refs l ++ [V.ref a] = refs (l ++ [a]) := by unfold refs; rw [List.map_append]; rfl
theorem bys_len (l : List Nat) : (bys l).length = l.length := by unfold bys; rw [List.length_map]
theorem bys_snoc (l : List Nat) (b : Nat) : bys l ++ [V.int (b : Int)] = bys (l ++ [b]) := by unfold bys; rw [List.map_append]; rfl
theorem cutStep_len (sep : Nat) : ∀ (l : List Nat) (x : List (List Nat) × List Nat), (l.foldl (cutStep sep) x).1.length ≤ x.1.length + l.length ∧ (l.foldl (cutStep sep) x).2.length ≤ x.2.length + l.length
  | [], x => ⟨Nat.le_refl _, Nat.le_refl _⟩
  | b :: r, x => by
    rw [List.foldl_cons]
    have ih := cutStep_len sep r (cutStep sep x b)
    rw [List.length_cons]
    unfold cutStep at ih ⊢
    split at ih
    · rename_i hb
      rw [if_pos hb]
      have e1 : (x.1 ++ [x.2], ([] : List Nat)).1.length = x.1.length + 1 := by rw [List.length_append]; rfl
      have e2 : (x.1 ++ [x.2], ([] : List Nat)).2.length = 0 := rfl
      omega
    · rename_i hb
      rw [if_neg hb]
      have e1 : (x.1, x.2 ++ [b]).1.length = x.1.length := rfl
      have e2 : (x.1, x.2 ++ [b]).2.length = x.2.length + 1 := by show (x.2 ++ [b]).length = _; rw [List.length_append]; rfl
      omega
section
variable {K : PySem.W.Frag} {σ : L2.St} {H : Hp} {ta tb te tv : TE} {D : Ends}
theorem q_asgLL {i : Nat} {tz : TS} (k : ∀ p q H1, H p = none → H q = none → p ≠ q → Ex H H1 → H1 p = some (.lst [.ref q]) → H1 q = some (.lst []) → tz D (σ.set i (some (.ref p))) H1) : tSeq (tAsg (tLst (tCons (tLst tNil) tNil)) (gName i)) tz D σ H :=
  ⟨Nat.zero_le _, fun q hq => ⟨by show 1 ≤ sizeLine; decide, fun p hp => by
    have npq : p ≠ q := fun z => by rw [z, upd_same] at hp; cases hp
    have hp0 : H p = none := by rw [upd_ne npq] at hp; exact hp
    exact k p q _ hp0 hq npq ((Ex.new hq).trans (Ex.new hp)) upd_same (by rw [upd_ne (Ne.symm npq)]; exact upd_same)⟩⟩
/-- the loop that cuts a text -/
theorem split_loop {a p q : Addr} {l : List Nat} {sep : Nat} {sp : Int} {tl : List (Option V)} {D : Ends} {H0 : Hp} (hsp : sp = (sep : Int)) (hl : l.length ≤ 40000) (e0 : Ex H0 H) (ha : H a = some (.lst (bys l))) (hp : H p = some (.lst [.ref q])) (hq : H q = some (.lst [])) (np : H0 p = none) (nq : H0 q = none) (npq : p ≠ q) (ha0 : ∃ o, H0 a = some o)
    (k : ∀ (v : Option V) H1 as, Ex H0 H1 → H1 p = some (.lst (refs as)) → LLA H1 as (cut sep l) → (∀ b ∈ as, H0 b = none) → D.nx (some (.ref a) :: some (.ref p) :: v :: tl) H1) :
    tFor (iList K (tVar 0)) (gName 2) (tIfS (tTest (tOp rEq (tVar 2) (tC (.int sp)))) (tDrop (tBM K "list" rAppend (tVar 1) (tCons (tLst tNil) tNil))) (tDrop (tBM K "list" rAppend (tOp (rIxL K) (tVar 1) (tUn (rU fun i => .int (-i)) (tC (.int 1)))) (tCons (tVar 2) tNil)))) D (some (.ref a) :: some (.ref p) :: none :: tl) H := by
  subst hsp
  obtain ⟨oa, hoa⟩ := ha0
  have nap : a ≠ p := ne_of_none hoa np
  have naq : a ≠ q := ne_of_none hoa nq
  refine s_forLn (ev_var rfl) (SqL.of ha) (fun i σ' H' => (∃ v, σ' = some (.ref a) :: some (.ref p) :: v :: tl) ∧ Ex H0 H' ∧ H' a = some (.lst (bys l)) ∧ ∃ as ca, H' p = some (.lst (refs (as ++ [ca]))) ∧ LLA H' as ((l.take i).foldl (cutStep sep) ([], [])).1 ∧ H' ca = some (.lst (bys ((l.take i).foldl (cutStep sep) ([], [])).2)) ∧ ca ∉ as ∧ p ∉ as ∧ p ≠ ca ∧ H0 ca = none ∧ (∀ b ∈ as, H0 b = none))
    (fun H1 e1 => ⟨⟨_, rfl⟩, e0.trans e1, e1 _ _ ha, [], q, e1 _ _ hp, ⟨rfl, fun i a w h1 _ => by cases h1⟩, e1 _ _ hq, List.not_mem_nil, List.not_mem_nil, npq, nq, fun b hb => by cases hb⟩) (fun i σ' H' _ p => SqL.of p.2.2.1) (fun i x σ' H' hx P => ?_) fun σ' H' P => ?_
  · obtain ⟨⟨v, rfl⟩, e, hal, as, ca, lp, ll, lc, n1, n2, n3, f1, f2⟩ := P
    obtain ⟨b, hb, rfl⟩ := bys_get hx
    have hi : i < l.length := (List.getElem?_eq_some_iff.mp hb).1
    have cl := cutStep_len sep (l.take i) ([], [])
    have tkl : (l.take i).length ≤ i := by rw [List.length_take]; omega
    have z1 : (([], []) : List (List Nat) × List Nat).1.length = 0 := rfl
    have z2 : (([], []) : List (List Nat) × List Nat).2.length = 0 := rfl
    have tk : (l.take (i + 1)).foldl (cutStep sep) ([], []) = cutStep sep ((l.take i).foldl (cutStep sep) ([], [])) b := by
      rw [List.take_succ, hb, List.foldl_append]
      rfl
    rw [tk]
    generalize (l.take i).foldl (cutStep sep) ([], []) = dc at ll lc cl
    have hasl := ll.len
    refine s_if (b := decide ((b : Int) = (sep : Int))) (et_test (ev_eqI (ev_var rfl) ev_c)) (fun hbb H1 e1 => ?_) (fun hbb H1 e1 => ?_)
    · have hbs : b = sep := by have := of_decide_eq_true hbb; omega
      have es : cutStep sep dc b = (dc.1 ++ [dc.2], []) := if_pos hbs
      rw [es]
      refine s_appL (e1 _ _ lp) (ev_var rfl) (el_lst ea_nil (by decide)) (by unfold refs; rw [List.length_map, List.length_append]; show as.length + 1 < 100000; omega) fun q2 H2 hq2 e2 l2 => ?_
      have fq2 : H0 q2 = none := fresh_back (e.trans e1) hq2
      have pq2 : p ≠ q2 := ne_of_none (e1 _ _ lp) hq2
      have cq2 : ca ≠ q2 := ne_of_none (e1 _ _ lc) hq2
      have ll2 := (ll.ex (e1.trans e2)).snoc ((e1.trans e2) _ _ lc)
      have np2 : p ∉ as ++ [ca] := fun z => by
        rcases List.mem_append.mp z with y | y
        · exact n2 y
        · exact n3 (by simpa using y)
      refine ⟨⟨_, rfl⟩, ((e.trans e1).trans e2).mut np, ?_, as ++ [ca], q2, ?_, ll2.off np2, ?_, fun z => ?_, np2, pq2, fq2, fun c hc => ?_⟩
      · rw [upd_ne nap]; exact (e1.trans e2) _ _ hal
      · rw [upd_same, refs_snoc]
      · rw [upd_ne (Ne.symm pq2)]; exact l2
      · rcases List.mem_append.mp z with y | y
        · obtain ⟨j, hj⟩ := get_of_mem y
          obtain ⟨w2, hw2⟩ := get_len ll.len hj
          exact ne_of_none (e1 _ _ (ll.ob j q2 w2 hj hw2)) hq2 rfl
        · have : q2 = ca := by simpa using y
          exact cq2 this.symm
      · rcases List.mem_append.mp hc with y | y
        · exact f2 c y
        · have : c = ca := by simpa using y
          rw [this]; exact f1
    · have hbs : ¬ b = sep := by have := of_decide_eq_false hbb; omega
      have es : cutStep sep dc b = (dc.1, dc.2 ++ [b]) := if_neg hbs
      rw [es]
      have lp1 := e1 _ _ lp
      have lst : refs (as ++ [ca]) = refs as ++ [V.ref ca] := by unfold refs; rw [List.map_append]; rfl
      refine s_app (l := ca) (e1 _ _ lc) (ev_op (ev_var rfl) (ev_neg ev_c) (rv_ixL (SqL.of lp1) (by rw [lst]; exact atI_last _ _))) (ev_var rfl) (by rw [bys_len]; omega) fun H2 e2 => ?_
      have nca : a ≠ ca := ne_of_none hoa f1
      refine ⟨⟨_, rfl⟩, ((e.trans e1).trans e2).mut f1, ?_, as, ca, ?_, (ll.ex (e1.trans e2)).off n1, ?_, n1, n2, n3, f1, f2⟩
      · rw [upd_ne nca]; exact (e1.trans e2) _ _ hal
      · rw [upd_ne n3]; exact e2 _ _ lp1
      · rw [upd_same, bys_snoc]
  · obtain ⟨⟨v, rfl⟩, e, hal, as, ca, lp, ll, lc, n1, n2, n3, f1, f2⟩ := P
    rw [bys_len, List.take_length] at ll lc
    refine k v H' (as ++ [ca]) e lp ?_ fun c hc => ?_
    · rw [← cut_all sep l]
      exact ll.snoc lc
    · rcases List.mem_append.mp hc with y | y
      · exact f2 c y
      · have : c = ca := by simpa using y
        rw [this]; exact f1
theorem LLA.zip {H : Hp} {as : List Addr} {ws : List (List Nat)} (h : LLA H as ws) {i : Nat} {p : Addr × List Nat} (e : (as.zip ws)[i]? = some p) : H p.1 = some (.lst (bys p.2)) := h.ob i p.1 p.2 (zip_get e).1 (zip_get e).2
theorem bys_empty (w : List Nat) : (bys w).isEmpty = w.isEmpty := by cases w <;> rfl
end
section
variable {P : Program} {w : World} {K : PySem.W.Frag} {mg : Str → Option Value} {base : Heap} {A : Ads}
def sp_f_rows_of (K : PySem.W.Frag) (A : Ads) : Sp := fun vs H Q _ => ∃ (a : Addr) (l : List Nat), vs = [.ref a] ∧ H a = some (.lst (bys l)) ∧ l.length ≤ 1000 ∧ RetLL (cut 10 l) H Q
theorem ok_f_rows_of (X : Tx K mg A) : Okd P w K mg base CX0 1 A.f_rows_of ["text"] (sp_f_rows_of K A) := by
  obtain ⟨fd, F⟩ := X.fn_f_rows_of
  refine ⟨fd, F.ok sc_f_rows_of (fun vs H Q E h => ?_) (fun cdv A' outer s H vs Q E hr h => ⟨_, (pss_cons (ps_set (i := 1) sc_f_rows_of.nd rfl (Or.inl rfl) (pe_lst (pa_cons (pe_lst pa_nil) pa_nil)))
    (pss_cons (ps_for (PassesOwn.never) rfl (pi_list (pv 0)) (pg_name (i := 2) sc_f_rows_of.nd rfl (Or.inl rfl))
      (pss_one (ps_if (pt_cmpR op_eq (pv 2) (pe_gi rfl X.c_ROW_END) (nomark _))
        (pss_one (ps_expr (pe_bm PySem.F.plainAttrs_list PySem.F.slot_list_append PySem.F.type_list_append mt_append (pv 1) (pa_cons (pe_lst pa_nil) pa_nil))))
        (pss_one (ps_expr (pe_bm PySem.F.plainAttrs_list PySem.F.slot_list_append PySem.F.type_list_append mt_append (pe_ix ix_list (pv 1) (pe_un un_neg pe_int) (fun _ _ => rfl)) (pa_cons (pv 2) pa_nil)))))))
    (pss_one (ps_ret (pv 1))))), ?_⟩), F.binds fun _ _ _ _ _ _ us hl => match us, hl with | [_], _ => rfl⟩
  · obtain ⟨_, _, rfl, _⟩ := h
    rfl
  · obtain ⟨a, l, rfl, ha, hl, k⟩ := h
    refine q_asgLL fun p q H1 hp hq npq e1 lp lq => ?_
    refine split_loop (H0 := H) (a := a) (p := p) (q := q) (l := l) (sep := 10) (tl := []) rfl (by omega) e1 (e1 _ _ ha) lp lq hp hq npq ⟨_, ha⟩ fun v H2 as e2 lp ll lf => ?_
    · refine s_ret (ev_var rfl) fun H3 e3 => k p H3 as hp (e2.trans e3) (e3 _ _ lp) (ll.ex e3) lf
def sp_f_words_of (K : PySem.W.Frag) (A : Ads) : Sp := fun vs H Q _ => ∃ (a : Addr) (l : List Nat), vs = [.ref a] ∧ H a = some (.lst (bys l)) ∧ l.length ≤ 1000 ∧ RetLL (words l) H Q
theorem ok_f_words_of (X : Tx K mg A) : Okd P w K mg base CX0 1 A.f_words_of ["row"] (sp_f_words_of K A) := by
  obtain ⟨fd, F⟩ := X.fn_f_words_of
  refine ⟨fd, F.ok sc_f_words_of (fun vs H Q E h => ?_) (fun cdv A' outer s H vs Q E hr h => ⟨_, (pss_cons (ps_set (i := 1) sc_f_words_of.nd rfl (Or.inl rfl) (pe_lst (pa_cons (pe_lst pa_nil) pa_nil)))
    (pss_cons (ps_for (PassesOwn.never) rfl (pi_list (pv 0)) (pg_name (i := 2) sc_f_words_of.nd rfl (Or.inl rfl))
      (pss_one (ps_if (pt_cmpR op_eq (pv 2) (pe_gi rfl X.c_BLANK) (nomark _))
        (pss_one (ps_expr (pe_bm PySem.F.plainAttrs_list PySem.F.slot_list_append PySem.F.type_list_append mt_append (pv 1) (pa_cons (pe_lst pa_nil) pa_nil))))
        (pss_one (ps_expr (pe_bm PySem.F.plainAttrs_list PySem.F.slot_list_append PySem.F.type_list_append mt_append (pe_ix ix_list (pv 1) (pe_un un_neg pe_int) (fun _ _ => rfl)) (pa_cons (pv 2) pa_nil)))))))
    (pss_one (ps_ret (pe_lc (own := [("word", 3)]) (g := gName 3) (tt := (tTest (tOp (rNilC K true) (tVar 3) (tLst tNil)))) rfl sc_f_words_of.nd (pi_list (pv 1)) (blkOk_by (N := ["row", "found", "byte", "word"]) (sc := defScope s_f_words_of) (own := [("word", 3)]) (by decide +kernel)) (fun _ _ _ _ _ => pg_name (i := 3) sc_f_words_of.nd rfl (.inl rfl)) (fun _ _ _ _ _ => (pts_one (pt_cmpR (op_neNil (hu64 hr)) (pv 3) (pe_lst pa_nil) (nomark _)))) (fun _ _ _ _ _ => (pv 3))))))), ?_⟩), F.binds fun _ _ _ _ _ _ us hl => match us, hl with | [_], _ => rfl⟩
  · obtain ⟨_, _, rfl, _⟩ := h
    rfl
  · obtain ⟨a, l, rfl, ha, hl, k⟩ := h
    refine q_asgLL fun p q H1 hp hq npq e1 lp lq => ?_
    refine split_loop (H0 := H) (a := a) (p := p) (q := q) (l := l) (sep := 32) (tl := [none]) rfl (by omega) e1 (e1 _ _ ha) lp lq hp hq npq ⟨_, ha⟩ fun v H2 as e2 lp ll lf => ?_
    · have hlen := ll.len
      have hx : SqL K H2 p ((as.zip (cut 32 l)).map fun y => V.ref y.1) := by rw [← zip_refs hlen]; exact SqL.of lp
      have cl : (cut 32 l).length ≤ 1001 := by
        rw [← cut_all 32 l, List.length_append]
        have := (cutStep_len 32 l ([], [])).1
        have z1 : (([], []) : List (List Nat) × List Nat).1.length = 0 := rfl
        show _ + 1 ≤ _
        omega
      have ev := el_lcM (K := K) (tl := tVar 1) (t := tTest (tOp (rNilC K true) (tVar 3) (tLst tNil))) (te := tVar 3) (σ := [some (.ref a), some (.ref p), v, none]) (j := 3) (vs := [3]) (0, ([] : List Nat)) (fun y => !y.2.isEmpty) (fun y => V.ref y.1) (ev_var rfl) hx (by rw [List.length_zip, hlen]; omega) (fun _ => rfl)
        (fun y i H3 e3 hy => et_is (et_test (ev_nil (ev_var rfl) (SqL.of (e3 _ _ (ll.zip hy))))) (by rw [bys_empty]; rfl)) (fun y i H3 e3 hy _ => ev_var rfl)
      generalize hF : (as.zip (cut 32 l)).filter (fun y => !y.2.isEmpty) = F at ev
      have e2' : F.map (fun y => V.ref y.1) = refs (F.map fun y => y.1) := by unfold refs; rw [List.map_map]; rfl
      rw [e2'] at ev
      have e3' : F.map (fun y => y.2) = words l := by rw [← hF]; exact zip_filter hlen (fun y => !y.isEmpty)
      refine s_retL ev fun p3 H3 hp3 e3 l3 => k p3 H3 _ (fresh_back e2 hp3) (e2.trans e3) l3 ?_ fun b hb => ?_
      rotate_left
      · obtain ⟨y, hy, rfl⟩ := List.mem_map.mp hb
        rw [← hF] at hy
        obtain ⟨j, hj⟩ := get_of_mem (List.mem_filter.mp hy).1
        exact lf _ (List.mem_of_getElem? (zip_get hj).1)
      rw [← e3']
      refine ⟨by rw [List.length_map, List.length_map], fun i b x hb hx => ?_⟩
      rw [List.getElem?_map] at hb hx
      cases hq : F[i]? with
      | none => rw [hq] at hb; cases hb
      | some y =>
        rw [hq] at hb hx
        have hm := List.mem_of_getElem? hq
        rw [← hF] at hm
        obtain ⟨j, hj⟩ := get_of_mem (List.mem_filter.mp hm).1
        cases hb
        cases hx
        exact e3 _ _ (ll.zip hj)
end
end Eh

-- EhW6
set_option Elab.async false
set_option linter.all false
set_option maxRecDepth 100000
set_option maxHeartbeats 4000000
namespace Eh
open PySem PySem.Spec PyProof.Rows L2 EhR EhZ Evl
open Vbdbam (cut words)
/-! ### words as texts -/
def kindS (k : Nat) : Str := ([("places" : Str), "form", "cap", "judges", "fee", "fine", "answer", "start", "back"] : List Str).getD k ""
theorem kind_of (k : Nat) (h : k < 9) : k = 0 ∨ k = 1 ∨ k = 2 ∨ k = 3 ∨ k = 4 ∨ k = 5 ∨ k = 6 ∨ k = 7 ∨ k = 8 := by omega
theorem kindS_eq : ∀ k j, k < 9 → j < 9 → (kindS k = kindS j ↔ k = j) := by
  intro k j hk hj
  constructor
  · intro e
    have q : ∀ k, k < 9 → ∀ j, j < 9 → kindS k = kindS j → k = j := by decide +kernel
    exact q k hk j hj e
  · intro e; rw [e]
theorem kindS_cps (k : Nat) (hk : k < 9) : (kindS k).cps.toList = kindAt k := by
  have q : ∀ k, k < 9 → (kindS k).cps.toList = kindAt k := by decide +kernel
  exact q k hk
theorem kindS_size (k : Nat) (hk : k < 9) : (kindS k).cps.size ≤ 6 := by
  have q : ∀ k, k < 9 → (kindS k).cps.size ≤ 6 := by decide +kernel
  exact q k hk
/-! ### data of a list of numbers -/
def datN (l : List Nat) : PyData := .list (l.map fun (n : Nat) => PyData.int (n : Int))
theorem dp_bys {K : PySem.W.Frag} {H : Hp} : ∀ l : List Nat, DpAll K H (bys l) (l.map fun (n : Nat) => PyData.int (n : Int))
  | [] => .nil
  | n :: r => .cons (.int _) (dp_bys r)
theorem dp_list {K : PySem.W.Frag} {H : Hp} {a : Addr} {l : List Nat} (h : H a = some (.lst (bys l))) : Dp K H (.ref a) (datN l) := .lst (SqL.of h) (dp_bys l)
theorem eqv_ints : ∀ l k : List Nat, PyData.eqvAll (l.map fun (n : Nat) => PyData.int (n : Int)) (k.map fun (n : Nat) => PyData.int (n : Int)) = decide (l = k)
  | [], [] => rfl
  | [], _ :: _ => rfl
  | _ :: _, [] => rfl
  | a :: r, b :: t => by
    show (PyData.eqv (.int (a : Int)) (.int (b : Int)) && PyData.eqvAll _ _) = _
    rw [eqv_ints r t]
    show (((a : Int) == (b : Int)) && decide (r = t)) = _
    rw [Bool.beq_eq_decide_eq, ← Bool.decide_and]
    refine decide_eq_decide.mpr ?_
    rw [List.cons.injEq]
    exact ⟨fun ⟨h1, h2⟩ => ⟨by omega, h2⟩, fun ⟨h1, h2⟩ => ⟨by omega, h2⟩⟩
theorem depth_ints : ∀ l : List Nat, PyData.depthAll (l.map fun (n : Nat) => PyData.int (n : Int)) = 0
  | [] => rfl
  | a :: r => by
    show max (PyData.depth (.int (a : Int))) (PyData.depthAll (r.map fun (n : Nat) => PyData.int (n : Int))) = 0
    rw [depth_ints r]
    rfl
theorem lay_ints : ∀ l : List Nat, PyData.canLayAll0 (l.map fun (n : Nat) => PyData.int (n : Int)) = true
  | [] => rfl
  | a :: r => by
    show (PyData.canLay0 (.int (a : Int)) && PyData.canLayAll0 (r.map fun (n : Nat) => PyData.int (n : Int))) = true
    rw [lay_ints r]
    rfl
theorem shaped_ints (l : List Nat) : SeqAt.shaped (datN l) = true := by
  unfold SeqAt.shaped datN
  have e1 : (PyData.list (l.map fun (n : Nat) => PyData.int (n : Int))).canLay0 = true := lay_ints l
  have e2 : (PyData.list (l.map fun (n : Nat) => PyData.int (n : Int))).depth = 1 := by
    show PyData.depthAll _ + 1 = 1
    rw [depth_ints]
  rw [e1, e2]
  rfl
section
variable {K : PySem.W.Frag} {σ : L2.St} {H : Hp} {ta tb te tv : TE} {D : Ends} {tz tu : TS}
theorem ev_eqLN {a : Addr} {l m : List Nat} (ha : Ev ta σ H (.ref a)) (h : H a = some (.lst (bys l))) (hb : EvL tb σ H (bys m)) : Ev (tOp (rEqD K) ta tb) σ H (.bl (decide (l = m))) := fun H1 e Q q =>
  ha H1 e _ fun H2 e2 => hb H2 (e.trans e2) _ fun p H3 hp e3 h3 => ⟨datN l, datN m, dp_list (e3 _ _ (e2 _ _ (e _ _ h))), dp_list h3, shaped_ints l, shaped_ints m, by
    have : PyData.eqv (datN l) (datN m) = decide (l = m) := eqv_ints l m
    rw [this]
    exact q H3 (e2.trans e3)⟩
theorem et_kind {k : Nat} (j : Nat) (hk : k < 9) (hj : j < 9) (ha : Ev ta σ H (.str (kindS k))) : EvT (tTest (tOp rEq ta (tC (.str (kindS j))))) σ H (decide (k = j)) := by
  refine et_test (ev_is (ev_eq ha ev_c rfl) (congrArg V.bl (decide_eq_decide.mpr ?_)))
  rw [← kindS_eq k j hk hj]
  exact ⟨fun e => by injection e, fun e => by rw [e]⟩
theorem ev_kindNe {k : Nat} (j : Nat) (hk : k < 9) (hj : j < 9) (ha : Ev ta σ H (.str (kindS k))) : Ev (tOp rNe ta (tC (.str (kindS j)))) σ H (.bl (!decide (k = j))) := by
  refine ev_is (ev_ne ha ev_c rfl) (congrArg V.bl (congrArg not (decide_eq_decide.mpr ?_)))
  rw [← kindS_eq k j hk hj]
  exact ⟨fun e => by injection e, fun e => by rw [e]⟩
theorem x_ixn {xs : List V} {i : Int} {v : V} (ha : EvX ta σ H xs) (hb : Ev tb σ H (.int i)) (h0 : 0 ≤ i) (hx : xs[i.toNat]? = some v) : Ev (tOp (rIxL K) ta tb) σ H v := fun H1 e Q q =>
  ha H1 e _ fun p H2 e2 hp => hb H2 (e.trans e2) _ fun H3 e3 => ⟨p, xs, i, v, rfl, rfl, SqL.of (e3 _ _ hp), by
    have e2 : i = (i.toNat : Int) := by omega
    rw [e2]
    exact atI_nat hx, q H3 (e2.trans e3)⟩
end
theorem q_forZ {K : PySem.W.Frag} {σ : L2.St} {H : Hp} {D : Ends} {tz tu : TS} {ta : TA} {a b : Addr} {xs ys : List V} {i0 j0 : Nat} (h : EvA ta σ H [.ref a, .ref b]) (hx : SqL K H a xs) (hy : SqL K H b ys) (hl : xs.length = ys.length) (Pv : Nat → L2.St → Hp → Prop) (h0 : ∀ H1, Ex H H1 → Pv 0 σ H1) (hq : ∀ i σ H, Pv i σ H → SqL K H a xs ∧ SqL K H b ys)
    (hs : ∀ (i : Nat) (x y : V) (T : Addr) (σ : L2.St) (H : Hp), xs[i]? = some x → ys[i]? = some y → Pv i σ H → H T = none → tu { D with nx := Pv (i + 1), ct := Pv (i + 1), bk := tz D } ((σ.set i0 (some x)).set j0 (some y)) (upd H T (.tup [x, y]))) (hd : ∀ σ H, Pv xs.length σ H → tz D σ H) :
    tSeq (tFor (iZip K ta) (gTup K 2 (gCons (gName i0) (gCons (gName j0) gNil))) tu) tz D σ H :=
  h H (Ex.refl H) _ fun H1 e => ⟨a, b, xs, ys, rfl, ex_l e hx, ex_l e hy, RZ.for_zipL (D := { D with nx := tz D }) hl Pv (h0 H1 e) hq (fun i x y T σ H hx hy p hT => g_pair (SqT.of upd_same) (hs i x y T σ H hx hy p hT)) hd⟩
theorem bys_iV (l : List Nat) : bys l = iV (l.map fun (n : Nat) => (n : Int)) := by unfold bys iV; rw [List.map_map]; rfl
theorem num_fold : ∀ (l : List Nat) (n : Nat), l.all Vbdbam.isDigit = true → l.foldl (fun (n : Int) (c : Nat) => 10 * n + (c : Int) - 48) (n : Int) = ((l.foldl (fun n c => 10 * n + (c - 48)) n : Nat) : Int)
  | [], n, _ => rfl
  | c :: r, n, h => by
    rw [List.all_cons, Bool.and_eq_true] at h
    have hc := h.1
    unfold Vbdbam.isDigit at hc
    rw [Bool.and_eq_true] at hc
    have c1 := of_decide_eq_true hc.1
    have e : (10 * (n : Int) + (c : Int) - 48) = ((10 * n + (c - 48) : Nat) : Int) := by omega
    rw [List.foldl_cons, List.foldl_cons, e]
    exact num_fold r _ h.2
section
variable {P : Program} {w : World} {K : PySem.W.Frag} {mg : Str → Option Value} {base : Heap} {A : Ads}
def sp_f_number_of (K : PySem.W.Frag) (A : Ads) : Sp := fun vs H Q _ => ∃ (a : Addr) (l : List Nat), vs = [.ref a] ∧ H a = some (.lst (bys l)) ∧ l.length ≤ 1000 ∧ l ≠ [] ∧ RetV (.int (numM l)) H Q
theorem ok_f_number_of (X : Tx K mg A) : Okd P w K mg base CX0 1 A.f_number_of ["word"] (sp_f_number_of K A) := by
  obtain ⟨fd, F⟩ := X.fn_f_number_of
  refine ⟨fd, F.ok sc_f_number_of (fun vs H Q E h => ?_) (fun cdv A' outer s H vs Q E hr h => ⟨_, (pss_cons (ps_if (PW.pt (pw_or (pt_cmpR op_gt (pe_callB call_len_seq (by rfl) X.b_len PySem.boot_len (pa_cons (pv 0) pa_nil)) (pe_gi rfl X.c_MOST_DIGITS) (nomark _)) (pw_or1 (pt_cmpR (op_neNil (hu64 hr)) (pe_lc (own := [("byte", 2)]) (g := gName 2) rfl sc_f_number_of.nd (pi_list (pv 0)) (blkOk_by (N := ["word", "found", "byte"]) (sc := defScope s_f_number_of) (own := [("byte", 2)]) (by decide +kernel)) (fun _ _ _ _ _ => pg_name (i := 2) sc_f_number_of.nd rfl (.inl rfl)) (fun _ _ _ _ _ => (pts_one (pt_not (pt_chain op_le op_le pe_int (pv 2) pe_int)))) (fun _ _ _ _ _ => (pv 2))) (pe_lst pa_nil) (nomark _)))))
      (pss_one (ps_ret (pe_un un_neg pe_int)))
      pss_nil)
    (pss_cons (ps_if (PW.pt (pw_and (pt_cmpR op_eq (pe_ix ix_list (pv 0) pe_int (fun _ _ => rfl)) pe_int (nomark _)) (pw_and1 (pt_cmpR op_gt (pe_callB call_len_seq (by rfl) X.b_len PySem.boot_len (pa_cons (pv 0) pa_nil)) pe_int (nomark _)))))
      (pss_one (ps_ret (pe_un un_neg pe_int)))
      pss_nil)
    (pss_cons (ps_set (i := 1) sc_f_number_of.nd rfl (Or.inl rfl) pe_int)
    (pss_cons (ps_for (PassesOwn.never) rfl (pi_list (pv 0)) (pg_name (i := 2) sc_f_number_of.nd rfl (Or.inl rfl))
      (pss_one (ps_set (i := 1) sc_f_number_of.nd rfl (Or.inl rfl) (pe_op op_sub (pe_op op_add (pe_op op_mul pe_int (pv 1)) (pv 2)) pe_int))))
    (pss_one (ps_ret (pv 1))))))), ?_⟩), F.binds fun _ _ _ _ _ _ us hl => match us, hl with | [_], _ => rfl⟩
  · obtain ⟨_, _, rfl, _⟩ := h
    rfl
  · obtain ⟨a, l, rfl, ha, hl, hne, k⟩ := h
    have ev1 : Ev (tCB (rLenS K) (tCons (tVar 0) tNil)) [some (V.ref a), none, none] H (.int (l.length : Int)) := ev_is (ev_len (ev_var rfl) (SqL.of ha)) (by rw [bys_len])
    have evf := el_lcM (K := K) (tl := tVar 0) (t := tNot (tTest (tChain (rI0 fun i j => .bl (decide (i ≤ j))) (rI0 fun i j => .bl (decide (i ≤ j))) (tC (.int 48)) (tVar 2) (tC (.int 57))))) (te := tVar 2) (σ := [some (V.ref a), none, none]) (j := 2) (vs := [2]) (F := fun n : Nat => V.int (n : Int)) 0 (fun n : Nat => !Vbdbam.isDigit n) (fun n : Nat => V.int (n : Int)) (ev_var rfl) (SqL.of ha : SqL K H a (l.map fun n : Nat => V.int (n : Int))) (by omega) (fun _ => rfl)
      (fun n i H1 e hn => et_not (et_is (et_test (ev_chain ev_c (ev_var rfl) ev_c)) (by
        unfold Vbdbam.isDigit
        congr 1
        · exact decide_eq_decide.mpr (by omega)
        · exact decide_eq_decide.mpr (by omega)))) (fun n i H1 e hn _ => ev_var rfl)
    refine q_when (b := decide ((l.length : Int) > 4) || !(l.filter fun n : Nat => !Vbdbam.isDigit n).isEmpty) (et_or (et_test (ev_i0 ev1 ev_c)) fun _ => et_is (et_test (ev_nilL evf)) ?_) (fun hb H1 e1 => ?_) (fun hb H1 e1 => ?_)
    · show (!((l.filter fun n : Nat => !Vbdbam.isDigit n).map fun n : Nat => V.int (n : Int)).isEmpty) = _
      rw [List.isEmpty_map]
    · have hm : numM l = -1 := by
        unfold numM
        rw [if_pos]
        rw [Bool.or_eq_true] at hb
        rcases hb with hb | hb
        · left
          have := of_decide_eq_true hb
          omega
        · right
          cases q : l.all Vbdbam.isDigit with
          | false => rfl
          | true =>
            have : (l.filter fun n : Nat => !Vbdbam.isDigit n) = [] := List.filter_eq_nil_iff.mpr fun n hn => by
              rw [List.all_eq_true] at q
              rw [q n hn]
              decide
            rw [this] at hb
            cases hb
      rw [hm] at k
      exact s_ret (ev_neg ev_c) fun H2 e2 => k H2 (e1.trans e2)
    · rw [Bool.or_eq_false_iff] at hb
      have h4 := of_decide_eq_false hb.1
      have hd : l.all Vbdbam.isDigit = true := by
        rw [List.all_eq_true]
        intro n hn
        cases q : Vbdbam.isDigit n with
        | true => rfl
        | false =>
          have hm : n ∈ l.filter fun n : Nat => !Vbdbam.isDigit n := List.mem_filter.mpr ⟨hn, by rw [q]; rfl⟩
          have hb2 := hb.2
          cases hf : l.filter fun n : Nat => !Vbdbam.isDigit n with
          | nil => rw [hf] at hm; cases hm
          | cons x r => rw [hf] at hb2; cases hb2
      have hm0 : numM l = if l.headD 0 = 48 ∧ l.length > 1 then -1 else (Vbdbam.number l : Int) := by
        unfold numM
        rw [if_neg]
        rintro (z | z)
        · omega
        · rw [hd] at z; cases z
      have ha1 := e1 _ _ ha
      have h0 : (bys l)[(0 : Int).toNat]? = some (V.int ((l.headD 0 : Nat) : Int)) := by
        cases l with
        | nil => exact absurd rfl hne
        | cons x r => rfl
      refine q_when (b := decide (((l.headD 0 : Nat) : Int) = 48) && decide ((l.length : Int) > 1)) (et_and (et_test (ev_eqI (ev_ixn (ev_var rfl) ev_c (SqL.of ha1) (by decide) h0) ev_c)) fun _ => et_test (ev_i0 (ev_is (ev_len (ev_var rfl) (SqL.of ha1)) (by rw [bys_len])) ev_c)) (fun hb2 H2 e2 => ?_) (fun hb2 H2 e2 => ?_)
      · rw [Bool.and_eq_true] at hb2
        have q1 := of_decide_eq_true hb2.1
        have q2 := of_decide_eq_true hb2.2
        rw [hm0, if_pos ⟨by omega, by omega⟩] at k
        exact s_ret (ev_neg ev_c) fun H3 e3 => k H3 ((e1.trans e2).trans e3)
      · rw [hm0, if_neg] at k
        · refine q_asg ev_c fun H3 e3 => ?_
          refine q_forLn (ev_var rfl) (SqL.of (e3 _ _ (e2 _ _ ha1))) (fun i σ' H' => (∃ v, σ' = [some (.ref a), some (.int ((l.take i).foldl (fun (n : Int) (c : Nat) => 10 * n + (c : Int) - 48) 0)), v]) ∧ Ex H H') (fun H4 e4 => ⟨⟨_, rfl⟩, ((e1.trans e2).trans e3).trans e4⟩) (fun i σ' H' _ p => SqL.of (p.2 _ _ ha)) (fun i x σ' H' hx p => ?_) fun σ' H' p => ?_
          · obtain ⟨⟨v, rfl⟩, e⟩ := p
            obtain ⟨b, hb, rfl⟩ := bys_get hx
            refine s_asg (ev_i0 (ev_i0 (ev_iC ev_c (ev_var rfl) (.inl ⟨by decide, by decide⟩)) (ev_var rfl)) ev_c) fun H4 e4 => ⟨⟨some (V.int (b : Int)), ?_⟩, e.trans e4⟩
            rw [List.take_succ, hb, List.foldl_append]
            rfl
          · obtain ⟨⟨v, rfl⟩, e⟩ := p
            rw [bys_len, List.take_length]
            have q := num_fold l 0 hd
            have q' : l.foldl (fun (n : Int) (c : Nat) => 10 * n + (c : Int) - 48) 0 = ((Vbdbam.number l : Nat) : Int) := q
            rw [q']
            exact s_ret (ev_var rfl) fun H4 e4 => k H4 (e.trans e4)
        · rintro ⟨a1, a2⟩
          rw [decide_eq_true (show ((l.headD 0 : Nat) : Int) = 48 by omega), decide_eq_true (show (l.length : Int) > 1 by omega)] at hb2
          cases hb2
def sp_f_is_word (K : PySem.W.Frag) (A : Ads) : Sp := fun vs H Q _ => ∃ (a : Addr) (l : List Nat) (x : Str), vs = [.ref a, .str x] ∧ H a = some (.lst (bys l)) ∧ x.cps.size ≤ 1000 ∧ RetV (.bl (decide (l = x.cps.toList))) H Q
theorem ok_f_is_word (X : Tx K mg A) : Okd P w K mg base CX0 1 A.f_is_word ["word", "told"] (sp_f_is_word K A) := by
  obtain ⟨fd, F⟩ := X.fn_f_is_word
  refine ⟨fd, F.ok sc_f_is_word (fun vs H Q E h => ?_) (fun cdv A' outer s H vs Q E hr h => ⟨_, (pss_one (ps_ret (pe_cmpR (op_eqD (hu64 hr)) (pv 0) (pe_lc (own := [("sign", 2)]) (g := gName 2) rfl sc_f_is_word.nd (pi_str (pv 1)) (blkOk_by (N := ["word", "told", "sign"]) (sc := defScope s_f_is_word) (own := [("sign", 2)]) (by decide +kernel)) (fun _ _ _ _ _ => pg_name (i := 2) sc_f_is_word.nd rfl (.inl rfl)) (fun _ _ _ _ _ => pts_nil) (fun _ _ _ _ _ => (pe_callB call_ord (by rfl) X.b_ord (by decide +kernel) (pa_cons (pv 2) pa_nil)))) (nomark _)))), ?_⟩), F.binds fun _ _ _ _ _ _ us hl => match us, hl with | [_, _], _ => rfl⟩
  · obtain ⟨_, _, _, rfl, _⟩ := h
    rfl
  · obtain ⟨a, l, x, rfl, ha, hz, k⟩ := h
    exact s_ret (ev_eqLN (ev_var rfl) ha (el_lcS (ev_var rfl) (by omega) (fun _ => rfl) fun c H1 e => ev_ord (ev_var rfl))) k
/-- a list of pairs -/
def Prs (H : Hp) (ts : List Addr) (bs : List (Int × Int)) : Prop := ts.length = bs.length ∧ ∀ (i : Nat) (t : Addr) (b : Int × Int), ts[i]? = some t → bs[i]? = some b → H t = some (.tup [.int b.1, .int b.2])
theorem Prs.ex {H H' : Hp} {ts : List Addr} {bs : List (Int × Int)} (h : Prs H ts bs) (e : Ex H H') : Prs H' ts bs := ⟨h.1, fun i t b h1 h2 => e _ _ (h.2 i t b h1 h2)⟩
def RetPrs (bs : List (Int × Int)) (H : Hp) (Q : VK) : Prop := ∀ p H2 ts, H p = none → Ex H H2 → H2 p = some (.lst (refs ts)) → Prs H2 ts bs → Q (.ref p) H2
theorem s_ret1 {σ : L2.St} {H H0 : Hp} {D : Ends} {x y : Int} (e : Ex H0 H) (k : RetPrs [(x, y)] H0 D.rt) : tRet (tLst (tCons (tTup (tCons (tC (.int x)) (tCons (tC (.int y)) tNil))) tNil)) D σ H :=
  ⟨by show 2 ≤ sizeLine; decide, fun t ht => ⟨by show 1 ≤ sizeLine; decide, fun p hp => by
    have npt : p ≠ t := fun z => by rw [z, upd_same] at hp; cases hp
    have hp0 : H p = none := by rw [upd_ne npt] at hp; exact hp
    refine k p _ [t] (fresh_back e hp0) (e.trans ((Ex.new ht).trans (Ex.new hp))) upd_same ⟨rfl, fun i a b h1 h2 => ?_⟩
    match i, h1, h2 with
    | 0, h1, h2 =>
      cases h1
      cases h2
      rw [upd_ne (Ne.symm npt)]
      exact upd_same
    | i + 1, h1, h2 => cases h1⟩⟩
theorem s_ret2 {σ : L2.St} {H H0 : Hp} {D : Ends} {x y z u : Int} (e : Ex H0 H) (k : RetPrs [(x, y), (z, u)] H0 D.rt) : tRet (tLst (tCons (tTup (tCons (tC (.int x)) (tCons (tC (.int y)) tNil))) (tCons (tTup (tCons (tC (.int z)) (tCons (tC (.int u)) tNil))) tNil))) D σ H :=
  ⟨by show 2 ≤ sizeLine; decide, fun t ht => ⟨by show 2 ≤ sizeLine; decide, fun t2 ht2 => ⟨by show 2 ≤ sizeLine; decide, fun p hp => by
    have e2 : Ex H (upd (upd H t (.tup [.int x, .int y])) t2 (.tup [.int z, .int u])) := (Ex.new ht).trans (Ex.new ht2)
    have ntt : t2 ≠ t := fun z => by rw [z, upd_same] at ht2; cases ht2
    have npt2 : p ≠ t2 := fun z => by rw [z, upd_same] at hp; cases hp
    have npt : p ≠ t := fun z => by rw [z, upd_ne (Ne.symm ntt), upd_same] at hp; cases hp
    refine k p _ [t, t2] (fresh_back (e.trans e2) hp) ((e.trans e2).trans (Ex.new hp)) upd_same ⟨rfl, fun i a b h1 h2 => ?_⟩
    match i, h1, h2 with
    | 0, h1, h2 =>
      cases h1
      cases h2
      rw [upd_ne (Ne.symm npt), upd_ne (Ne.symm ntt)]
      exact upd_same
    | 1, h1, h2 =>
      cases h1
      cases h2
      rw [upd_ne (Ne.symm npt2)]
      exact upd_same
    | i + 2, h1, h2 => cases h1⟩⟩⟩
def sp_f_bounds_of (K : PySem.W.Frag) (A : Ads) : Sp := fun vs H Q _ => ∃ (n : Nat), vs = [.str (kindS n)] ∧ n < 9 ∧ RetPrs (boundsM n) H Q
theorem ok_f_bounds_of (X : Tx K mg A) : Okd P w K mg base CX0 1 A.f_bounds_of ["word"] (sp_f_bounds_of K A) := by
  obtain ⟨fd, F⟩ := X.fn_f_bounds_of
  refine ⟨fd, F.ok sc_f_bounds_of (fun vs H Q E h => ?_) (fun cdv A' outer s H vs Q E hr h => ⟨_, (pss_cons (ps_if (pt_cmpR op_eq (pv 0) pe_str (nomark _))
      (pss_one (ps_ret (pe_lst (pa_cons (pe_tup (pa_cons pe_int (pa_cons pe_int pa_nil))) pa_nil))))
      pss_nil)
    (pss_cons (ps_if (pt_cmpR op_eq (pv 0) pe_str (nomark _))
      (pss_one (ps_ret (pe_lst (pa_cons (pe_tup (pa_cons pe_int (pa_cons pe_int pa_nil))) pa_nil))))
      pss_nil)
    (pss_cons (ps_if (pt_cmpR op_eq (pv 0) pe_str (nomark _))
      (pss_one (ps_ret (pe_lst (pa_cons (pe_tup (pa_cons pe_int (pa_cons pe_int pa_nil))) pa_nil))))
      pss_nil)
    (pss_cons (ps_if (pt_cmpR op_eq (pv 0) pe_str (nomark _))
      (pss_one (ps_ret (pe_lst (pa_cons (pe_tup (pa_cons pe_int (pa_cons pe_int pa_nil))) (pa_cons (pe_tup (pa_cons pe_int (pa_cons pe_int pa_nil))) pa_nil)))))
      pss_nil)
    (pss_cons (ps_if (pt_cmpR op_eq (pv 0) pe_str (nomark _))
      (pss_one (ps_ret (pe_lst (pa_cons (pe_tup (pa_cons pe_int (pa_cons pe_int pa_nil))) pa_nil))))
      pss_nil)
    (pss_cons (ps_if (pt_cmpR op_eq (pv 0) pe_str (nomark _))
      (pss_one (ps_ret (pe_lst (pa_cons (pe_tup (pa_cons pe_int (pa_cons pe_int pa_nil))) pa_nil))))
      pss_nil)
    (pss_one (ps_ret (pe_lst (pa_cons (pe_tup (pa_cons pe_int (pa_cons pe_int pa_nil))) pa_nil)))))))))), ?_⟩), F.binds fun _ _ _ _ _ _ us hl => match us, hl with | [_], _ => rfl⟩
  · obtain ⟨_, rfl, _⟩ := h
    rfl
  · obtain ⟨n, rfl, hn, k⟩ := h
    unfold boundsM at k
    refine q_when (et_kind 0 hn (by decide) (ev_var rfl)) (fun hb H1 e1 => s_ret1 e1 (by rw [if_pos (of_decide_eq_true hb)] at k; exact k)) (fun hb H1 e1 => ?_)
    rw [if_neg (of_decide_eq_false hb)] at k
    refine q_when (et_kind 1 hn (by decide) (ev_var rfl)) (fun hb H2 e2 => s_ret1 (e1.trans e2) (by rw [if_pos (of_decide_eq_true hb)] at k; exact k)) (fun hb H2 e2 => ?_)
    rw [if_neg (of_decide_eq_false hb)] at k
    have f2 := e1.trans e2
    refine q_when (et_kind 2 hn (by decide) (ev_var rfl)) (fun hb H3 e3 => s_ret1 (f2.trans e3) (by rw [if_pos (of_decide_eq_true hb)] at k; exact k)) (fun hb H3 e3 => ?_)
    rw [if_neg (of_decide_eq_false hb)] at k
    have f3 := f2.trans e3
    refine q_when (et_kind 3 hn (by decide) (ev_var rfl)) (fun hb H4 e4 => s_ret2 (f3.trans e4) (by rw [if_pos (of_decide_eq_true hb)] at k; exact k)) (fun hb H4 e4 => ?_)
    rw [if_neg (of_decide_eq_false hb)] at k
    have f4 := f3.trans e4
    refine q_when (et_kind 6 hn (by decide) (ev_var rfl)) (fun hb H5 e5 => s_ret1 (f4.trans e5) (by rw [if_pos (of_decide_eq_true hb)] at k; exact k)) (fun hb H5 e5 => ?_)
    rw [if_neg (of_decide_eq_false hb)] at k
    have f5 := f4.trans e5
    refine q_when (et_kind 7 hn (by decide) (ev_var rfl)) (fun hb H6 e6 => s_ret1 (f5.trans e6) (by rw [if_pos (of_decide_eq_true hb)] at k; exact k)) (fun hb H6 e6 => ?_)
    rw [if_neg (of_decide_eq_false hb)] at k
    exact s_ret1 (f5.trans e6) k
theorem pair_all {ns : List Int} {n : Nat} : (List.range n).all (pairAt ns) = true ↔ ∀ i, i < n → pairAt ns i = true := by
  rw [List.all_eq_true]
  exact ⟨fun h i hi => h i (List.mem_range.mpr hi), fun h i hi => h i (List.mem_range.mp hi)⟩
def sp_f_are_pairs (K : PySem.W.Frag) (A : Ads) : Sp := fun vs H Q _ => ∃ (a : Addr) (ns : List Int), vs = [.ref a] ∧ H a = some (.lst (iV ns)) ∧ RetV (.bl (pairsM ns)) H Q
theorem ok_f_are_pairs (X : Tx K mg A) : Okd P w K mg base CX0 1 A.f_are_pairs ["numbers"] (sp_f_are_pairs K A) := by
  obtain ⟨fd, F⟩ := X.fn_f_are_pairs
  refine ⟨fd, F.ok sc_f_are_pairs (fun vs H Q E h => ?_) (fun cdv A' outer s H vs Q E hr h => ⟨_, (pss_cons (ps_if (PW.pt (pw_or (pt_cmpR op_eq (pe_op op_mod (pe_callB call_len_seq (by rfl) X.b_len PySem.boot_len (pa_cons (pv 0) pa_nil)) pe_int) pe_int (nomark _)) (pw_or1 (pt_cmpR op_gt (pe_callB call_len_seq (by rfl) X.b_len PySem.boot_len (pa_cons (pv 0) pa_nil)) (pe_op op_mul pe_int (pe_gi rfl X.c_MOST_PAIRS)) (nomark _)))))
      (pss_one (ps_ret pe_bl))
      pss_nil)
    (pss_cons (ps_for (PassesOwn.never) rfl (pi_enum (by rfl) X.b_enumerate (pa_cons (pv 0) pa_nil)) (pg_tup rfl (pgs_cons (pg_name (i := 1) sc_f_are_pairs.nd rfl (Or.inl rfl)) (pgs_cons (pg_name (i := 2) sc_f_are_pairs.nd rfl (Or.inl rfl)) pgs_nil)))
      (pss_cons (ps_if (pt_not (pt_chain op_le op_le pe_int (pv 2) (pe_ix ix_list (pe_lst (pa_cons (pe_gi rfl X.c_MOST_DAYS) (pa_cons (pe_gi rfl X.c_MOST_PERCENT) pa_nil))) (pe_op op_mod (pv 1) pe_int) (fun _ _ => rfl))))
        (pss_one (ps_ret pe_bl))
        pss_nil)
      (pss_one (ps_if (PW.pt (pw_and (pt_cmpR op_gt (pv 1) pe_int (nomark _)) (pw_and1 (pt_cmpR op_gt (pv 2) (pe_op op_sub (pe_ix ix_list (pv 0) (pe_op op_sub (pv 1) pe_int) (fun _ _ => rfl)) (pe_callTy call_int1 (by rfl) X.b_int (by decide +kernel) (pa_cons (pe_cmpR op_eq (pe_op op_mod (pv 1) pe_int) pe_int (nomark _)) pa_nil))) (nomark _)))))
        (pss_one (ps_ret pe_bl))
        pss_nil))))
    (pss_one (ps_ret pe_bl)))), ?_⟩), F.binds fun _ _ _ _ _ _ us hl => match us, hl with | [_], _ => rfl⟩
  · obtain ⟨_, _, rfl, _⟩ := h
    rfl
  · obtain ⟨a, ns, rfl, ha, k⟩ := h
    have hil : (iV ns).length = ns.length := by unfold iV; rw [List.length_map]
    have evl : ∀ H1, Ex H H1 → Ev (tCB (rLenS K) (tCons (tVar 0) tNil)) [some (V.ref a), none, none] H1 (.int (ns.length : Int)) := fun H1 e1 => ev_is (ev_len (ev_var rfl) (SqL.of (e1 _ _ ha))) (by rw [hil])
    refine q_when (b := decide (((ns.length : Int) % 2) = 1) || decide ((ns.length : Int) > 2 * 6)) (et_or (et_test (ev_eqI (ev_iC (evl H (Ex.refl H)) ev_c (by decide)) ev_c)) fun _ => et_test (ev_i0 (evl H (Ex.refl H)) (ev_iC ev_c ev_c (.inl ⟨by decide, by decide⟩)))) (fun hb H1 e1 => ?_) (fun hb H1 e1 => ?_)
    · have hm : pairsM ns = false := by
        unfold pairsM
        have : (decide (ns.length % 2 = 1) || decide (12 < ns.length)) = true := by
          rw [Bool.or_eq_true] at hb ⊢
          rcases hb with q | q
          · left
            have := of_decide_eq_true q
            exact decide_eq_true (by omega)
          · right
            have := of_decide_eq_true q
            exact decide_eq_true (by omega)
        rw [this]
        rfl
      rw [hm] at k
      exact s_ret ev_c fun H2 e2 => k H2 (e1.trans e2)
    · rw [Bool.or_eq_false_iff] at hb
      have q1 := of_decide_eq_false hb.1
      have q2 := of_decide_eq_false hb.2
      have hm : pairsM ns = (List.range ns.length).all (pairAt ns) := by
        unfold pairsM
        have : (decide (ns.length % 2 = 1) || decide (12 < ns.length)) = false := by
          rw [Bool.or_eq_false_iff]
          exact ⟨decide_eq_false (by omega), decide_eq_false (by omega)⟩
        rw [this]
        rfl
      have ha1 := e1 _ _ ha
      refine q_forE (ea_cons (ev_var rfl) ea_nil) (SqL.of ha1) (fun i σ' H' => (∃ v u, σ' = [some (.ref a), v, u]) ∧ Ex H H' ∧ ∀ j, j < i → pairAt ns j = true) (fun H2 e2 => ⟨⟨_, _, rfl⟩, e1.trans e2, fun j hj => absurd hj (Nat.not_lt_zero _)⟩) (fun i σ' H' p => SqL.of (p.2.1 _ _ ha)) (fun i x T σ' H' hx p hT => ?_) fun σ' H' p => ?_
      · obtain ⟨⟨v, u, rfl⟩, e, hp⟩ := p
        have hi : i < ns.length := by
          have := (List.getElem?_eq_some_iff.mp hx).1
          omega
        have ex : x = V.int (ns.getD i 0) := by
          rw [iV_get hi] at hx
          exact (Option.some.inj hx).symm
        subst ex
        have e' := e.trans (Ex.new (o := .tup [.int (i : Nat), .int (ns.getD i 0)]) hT)
        have hal := e' _ _ ha
        have kf : pairAt ns i = false → RetV (.bl false) H Q := fun hf => by
          have : pairsM ns = false := by
            rw [hm]
            cases q : (List.range ns.length).all (pairAt ns) with
            | false => rfl
            | true =>
              have := pair_all.mp q i hi
              rw [hf] at this
              cases this
          rw [this] at k
          exact k
        have hlim : Ev (tOp (rIxL K) (tLst (tCons (tC (.int 200)) (tCons (tC (.int 100)) tNil))) (tOp (rI (fun _ j => 0 < j) fun i j => .int (i % j)) (tVar 1) (tC (.int 2)))) [some (.ref a), some (.int (i : Nat)), some (.int (ns.getD i 0))] (upd H' T (.tup [.int (i : Nat), .int (ns.getD i 0)])) (.int (if i % 2 = 0 then 200 else 100)) := by
          refine x_ixn (x_of_L (el_lst (ea_cons ev_c (ea_cons ev_c ea_nil)) (by decide))) (ev_iC (ev_var rfl) ev_c (by decide)) (by omega) ?_
          by_cases c : i % 2 = 0
          · have : ((i : Int) % 2).toNat = 0 := by omega
            rw [this, if_pos c]
            rfl
          · have : ((i : Int) % 2).toNat = 1 := by omega
            rw [this, if_neg c]
            rfl
        refine q_when (et_not (et_test (ev_chain ev_c (ev_var rfl) hlim))) (fun hb2 H3 e3 => ?_) (fun hb2 H3 e3 => ?_)
        · refine s_ret ev_c fun H4 e4 => kf ?_ H4 ((e'.trans e3).trans e4)
          unfold pairAt
          have : (decide (0 ≤ ns.getD i 0) && decide (ns.getD i 0 ≤ if i % 2 = 0 then 200 else 100)) = false := by
            revert hb2
            cases (decide (0 ≤ ns.getD i 0) && decide (ns.getD i 0 ≤ if i % 2 = 0 then 200 else 100)) with
            | false => intro _; rfl
            | true => intro z; cases z
          rw [this]
          rfl
        · have c1 : (decide (0 ≤ ns.getD i 0) && decide (ns.getD i 0 ≤ if i % 2 = 0 then 200 else 100)) = true := by
            revert hb2
            cases (decide (0 ≤ ns.getD i 0) && decide (ns.getD i 0 ≤ if i % 2 = 0 then 200 else 100)) with
            | true => intro _; rfl
            | false => intro z; cases z
          refine s_when (b := decide (1 < i) && decide (ns.getD i 0 > ns.getD (i - 2) 0 - if i % 2 = 0 then 1 else 0)) (et_and (et_is (et_test (ev_i0 (ev_var rfl) ev_c)) (decide_eq_decide.mpr (by omega))) fun h1 => ?_) (fun hb3 H4 e4 => ?_) (fun hb3 H4 e4 => ?_)
          · have h1' := of_decide_eq_true h1
            refine et_test (ev_i0 (ev_var rfl) (ev_i0 (ev_ixn (ev_var rfl) (ev_i0 (ev_var rfl) ev_c) (SqL.of (e3 _ _ hal)) (by omega) (v := .int (ns.getD (i - 2) 0)) ?_) (ev_is (ev_intB (ev_eqI (ev_iC (ev_var rfl) ev_c (by decide)) ev_c)) ?_)))
            · have : ((i : Int) - 2).toNat = i - 2 := by omega
              rw [this]
              exact iV_get (by omega)
            · refine congrArg V.int ?_
              by_cases c : i % 2 = 0
              · rw [if_pos c, if_pos (decide_eq_true (by omega))]
              · rw [if_neg c, if_neg (by rw [decide_eq_false (by omega)]; decide)]
          · refine s_ret ev_c fun H5 e5 => kf ?_ H5 (((e'.trans e3).trans e4).trans e5)
            unfold pairAt
            rw [c1, hb3]
            rfl
          · refine ⟨⟨_, _, rfl⟩, (e'.trans e3).trans e4, fun j hj => ?_⟩
            by_cases c : j = i
            · subst c
              unfold pairAt
              rw [c1, hb3]
              rfl
            · exact hp j (by omega)
      · obtain ⟨⟨v, u, rfl⟩, e, hp⟩ := p
        rw [hil] at hp
        rw [hm, pair_all.mpr hp] at k
        exact s_ret ev_c fun H3 e3 => k H3 (e.trans e3)
theorem bounds_len (n : Nat) : (boundsM n).length = if n = 3 then 2 else 1 := by
  unfold boundsM
  by_cases c0 : n = 0
  · rw [if_pos c0, c0]; rfl
  · rw [if_neg c0]
    by_cases c1 : n = 1
    · rw [if_pos c1, c1]; rfl
    · rw [if_neg c1]
      by_cases c2 : n = 2
      · rw [if_pos c2, c2]; rfl
      · rw [if_neg c2]
        by_cases c3 : n = 3
        · rw [if_pos c3, if_pos c3]; rfl
        · rw [if_neg c3, if_neg c3]
          by_cases c6 : n = 6
          · rw [if_pos c6]; rfl
          · rw [if_neg c6]
            by_cases c7 : n = 7
            · rw [if_pos c7]; rfl
            · rw [if_neg c7]; rfl
theorem ev_ixT {ta tb : TE} {σ : L2.St} {H : Hp} {p : Addr} {xs : List V} {v : V} (j : Nat) (ha : Ev ta σ H (.ref p)) (hb : Ev tb σ H (.int (j : Int))) (h : H p = some (.tup xs)) (e : xs[j]? = some v) : Ev (tOp (rIxT K) ta tb) σ H v :=
  ev_op ha hb (rv_ixT (SqT.of h) (atI_nat e))
theorem zip_all {ns : List Int} {bs : List (Int × Int)} (hl : ns.length = bs.length) : (ns.zip bs).all (fun p => decide (p.2.1 ≤ p.1) && decide (p.1 ≤ p.2.2)) = true ↔ ∀ (i : Nat) (n : Int) (b : Int × Int), ns[i]? = some n → bs[i]? = some b → (decide (b.1 ≤ n) && decide (n ≤ b.2)) = true := by
  rw [List.all_eq_true]
  constructor
  · intro h i n b h1 h2
    exact h (n, b) (List.mem_of_getElem? (List.getElem?_zip_eq_some.mpr ⟨h1, h2⟩ : (ns.zip bs)[i]? = some (n, b)))
  · rintro h ⟨n, b⟩ hm
    obtain ⟨i, hi⟩ := get_of_mem hm
    have q := List.getElem?_zip_eq_some.mp hi
    exact h i n b q.1 q.2
def sp_f_are_right (K : PySem.W.Frag) (A : Ads) : Sp := fun vs H Q _ => ∃ (n : Nat) (a : Addr) (ns : List Int), vs = [.str (kindS n), .ref a] ∧ n < 9 ∧ H a = some (.lst (iV ns)) ∧ RetV (.bl (rightM n ns)) H Q
theorem ok_f_are_right (X : Tx K mg A) : Okd P w K mg base CX0 2 A.f_are_right ["word", "numbers"] (sp_f_are_right K A) := by
  obtain ⟨fd_f_bounds_of, G_f_bounds_of, b_f_bounds_of⟩ := ok_f_bounds_of (P := P) (w := w) (base := base) X
  obtain ⟨fd_f_are_pairs, G_f_are_pairs, b_f_are_pairs⟩ := ok_f_are_pairs (P := P) (w := w) (base := base) X
  obtain ⟨fd, F⟩ := X.fn_f_are_right
  refine ⟨fd, F.ok sc_f_are_right (fun vs H Q E h => ?_) (fun cdv A' outer s H vs Q E hr h => ⟨_, (pss_cons (ps_if (pt_cmpR op_eq (pv 0) pe_str (nomark _))
      (pss_one (ps_ret (pe_call G_f_are_pairs (hr.mono (by decide)) rfl X.g_f_are_pairs X.k_f_are_pairs b_f_are_pairs .nil pass0 (pa_cons (pv 1) pa_nil))))
      pss_nil)
    (pss_cons (ps_set (i := 2) sc_f_are_right.nd rfl (Or.inl rfl) (pe_call G_f_bounds_of (hr.mono (by decide)) rfl X.g_f_bounds_of X.k_f_bounds_of b_f_bounds_of .nil pass0 (pa_cons (pv 0) pa_nil)))
    (pss_cons (ps_if (pt_cmpR op_ne (pe_callB call_len_seq (by rfl) X.b_len PySem.boot_len (pa_cons (pv 1) pa_nil)) (pe_callB call_len_seq (by rfl) X.b_len PySem.boot_len (pa_cons (pv 2) pa_nil)) (nomark _))
      (pss_one (ps_ret pe_bl))
      pss_nil)
    (pss_cons (ps_for (PassesOwn.never) rfl (pi_zip (by rfl) X.b_zip (pa_cons (pv 1) (pa_cons (pv 2) pa_nil))) (pg_tup rfl (pgs_cons (pg_name (i := 3) sc_f_are_right.nd rfl (Or.inl rfl)) (pgs_cons (pg_name (i := 4) sc_f_are_right.nd rfl (Or.inl rfl)) pgs_nil)))
      (pss_one (ps_if (pt_not (pt_chain op_le op_le (pe_ix ix_tup (pv 4) pe_int (fun _ _ => rfl)) (pv 3) (pe_ix ix_tup (pv 4) pe_int (fun _ _ => rfl))))
        (pss_one (ps_ret pe_bl))
        pss_nil)))
    (pss_one (ps_ret (pe_or (pe_cmpR op_ne (pv 0) pe_str (nomark _)) (pe_one (pe_cmpR op_ne (pe_ix ix_list (pv 1) pe_int (fun _ _ => rfl)) pe_int (nomark _)))))))))), ?_⟩), F.binds fun _ _ _ _ _ _ us hl => match us, hl with | [_, _], _ => rfl⟩
  · obtain ⟨_, _, _, rfl, _⟩ := h
    rfl
  · obtain ⟨n, a, ns, rfl, hn, ha, k⟩ := h
    have hil : (iV ns).length = ns.length := by unfold iV; rw [List.length_map]
    unfold rightM at k
    refine q_when (et_kind 8 hn (by decide) (ev_var rfl)) (fun hb H1 e1 => ?_) (fun hb H1 e1 => ?_)
    · rw [if_pos (of_decide_eq_true hb)] at k
      exact s_ret (ev_call (ea_cons (ev_var rfl) ea_nil) fun H2 e2 Q' q E' => ⟨a, ns, rfl, e2 _ _ (e1 _ _ ha), q⟩) fun H2 e2 => k H2 (e1.trans e2)
    · rw [if_neg (of_decide_eq_false hb)] at k
      refine q_call (ea_cons (ev_var rfl) ea_nil) fun H2 e2 => ⟨n, rfl, hn, fun p H3 ts hp e3 l3 hts => ?_⟩
      have f3 := (e1.trans e2).trans e3
      have ha3 := f3 _ _ ha
      have htl : (refs ts).length = (boundsM n).length := by unfold refs; rw [List.length_map]; exact hts.1
      refine q_when (et_test (ev_neI (ev_is (ev_len (ev_var rfl) (SqL.of ha3)) (congrArg (fun z : Nat => V.int (z : Int)) hil)) (ev_is (ev_len (ev_var rfl) (SqL.of l3)) (congrArg (fun z : Nat => V.int (z : Int)) htl)))) (fun hb2 H4 e4 => ?_) (fun hb2 H4 e4 => ?_)
      · have : ¬ ns.length = (boundsM n).length := fun z => by
          rw [z] at hb2
          rw [decide_eq_true rfl] at hb2
          cases hb2
        rw [decide_eq_false this, Bool.false_and] at k
        exact s_ret ev_c fun H5 e5 => k H5 ((f3.trans e4).trans e5)
      · have hlen : ns.length = (boundsM n).length := by
          have : decide ((ns.length : Int) = ((boundsM n).length : Int)) = true := by
            revert hb2
            cases decide ((ns.length : Int) = ((boundsM n).length : Int)) with
            | true => intro _; rfl
            | false => intro z; cases z
          have := of_decide_eq_true this
          omega
        rw [decide_eq_true hlen, Bool.true_and] at k
        have ha4 := e4 _ _ ha3
        have l4 := e4 _ _ l3
        have t4 := hts.ex e4
        refine q_forZ (ea_cons (ev_var rfl) (ea_cons (ev_var rfl) ea_nil)) (SqL.of ha4) (SqL.of l4) (by rw [hil, htl, hlen]) (fun i σ' H' => (∃ v u, σ' = [some (.str (kindS n)), some (.ref a), some (.ref p), v, u]) ∧ Ex H H' ∧ Ex H4 H' ∧ ∀ (j : Nat) (m : Int) (b : Int × Int), j < i → ns[j]? = some m → (boundsM n)[j]? = some b → (decide (b.1 ≤ m) && decide (m ≤ b.2)) = true) (fun H5 e5 => ⟨⟨_, _, rfl⟩, (f3.trans e4).trans e5, e5, fun j m b hj => absurd hj (Nat.not_lt_zero _)⟩) (fun i σ' H' q => ⟨SqL.of (q.2.1 _ _ ha), SqL.of (q.2.2.1 _ _ l4)⟩) (fun i x y T σ' H' hx hy q hT => ?_) fun σ' H' q => ?_
        · obtain ⟨⟨v, u, rfl⟩, e, e6, hp'⟩ := q
          have hi : i < ns.length := by
            have := (List.getElem?_eq_some_iff.mp hx).1
            omega
          have hyr : (ts.map V.ref)[i]? = some y := hy
          obtain ⟨t, ht, rfl⟩ : ∃ t, ts[i]? = some t ∧ y = V.ref t := by
            rw [List.getElem?_map] at hyr
            cases q : ts[i]? with
            | none => rw [q] at hyr; cases hyr
            | some t => rw [q] at hyr; exact ⟨t, rfl, (Option.some.inj hyr).symm⟩
          have hbd : (boundsM n)[i]? = some ((boundsM n)[i]'(by omega)) := List.getElem?_eq_getElem _
          generalize hbv : (boundsM n)[i]'(by omega) = b at hbd
          have ex : x = V.int (ns.getD i 0) := by
            rw [iV_get hi] at hx
            exact (Option.some.inj hx).symm
          subst ex
          have hni : ns[i]? = some (ns.getD i 0) := by rw [List.getD_eq_getElem?_getD, List.getElem?_eq_getElem hi]; rfl
          have eT := Ex.new (o := .tup [.int (ns.getD i 0), .ref t]) hT
          have tt := eT _ _ (e6 _ _ (t4.2 i t b ht hbd))
          refine s_when (et_not (et_test (ev_chain (ev_ixT 0 (ev_var rfl) ev_c tt rfl) (ev_var rfl) (ev_ixT 1 (ev_var rfl) ev_c tt rfl)))) (fun hb3 H7 e7 => ?_) (fun hb3 H7 e7 => ?_)
          · have hf : (ns.zip (boundsM n)).all (fun p => decide (p.2.1 ≤ p.1) && decide (p.1 ≤ p.2.2)) = false := by
              cases q : (ns.zip (boundsM n)).all (fun p => decide (p.2.1 ≤ p.1) && decide (p.1 ≤ p.2.2)) with
              | false => rfl
              | true =>
                have := (zip_all hlen).mp q i _ b hni hbd
                rw [this] at hb3
                cases hb3
            rw [hf, Bool.false_and] at k
            exact s_ret ev_c fun H8 e8 => k H8 (((e.trans eT).trans e7).trans e8)
          · refine ⟨⟨_, _, rfl⟩, (e.trans eT).trans e7, (e6.trans eT).trans e7, fun j m b' hj h1 h2 => ?_⟩
            by_cases c : j = i
            · subst c
              rw [hni] at h1
              rw [hbd] at h2
              cases h1
              cases h2
              revert hb3
              cases (decide (b.1 ≤ ns.getD j 0) && decide (ns.getD j 0 ≤ b.2)) with
              | true => intro _; rfl
              | false => intro z; cases z
            · exact hp' j m b' (by omega) h1 h2
        · obtain ⟨⟨v, u, rfl⟩, e, e6, hp'⟩ := q
          have hall : (ns.zip (boundsM n)).all (fun p => decide (p.2.1 ≤ p.1) && decide (p.1 ≤ p.2.2)) = true := (zip_all hlen).mpr fun i m b h1 h2 => hp' i m b (by rw [hil]; exact (List.getElem?_eq_some_iff.mp h1).1) h1 h2
          rw [hall, Bool.true_and] at k
          have bl := bounds_len n
          have hpos : 0 < ns.length := by
            rw [hlen, bl]
            split <;> omega
          refine s_ret (ev_is (ev_orV (ev_kindNe 1 hn (by decide) (ev_var rfl)) fun _ => ev_neI (ev_ixn (ev_var rfl) ev_c (SqL.of (e _ _ ha)) (by decide) (iV_get hpos)) ev_c) ?_) fun H7 e7 => k H7 (e.trans e7)
          refine congrArg V.bl ?_
          rw [decide_not, decide_not]
          rfl
end
end Eh

-- EhW7
set_option Elab.async false
set_option linter.all false
set_option maxRecDepth 100000
set_option maxHeartbeats 4000000
namespace Eh
open PySem PySem.Spec PyProof.Rows L2 EhR EhZ Evl
open Vbdbam (cut words)
/-! ### what is raised -/
def RefE (A : Ads) (E : XK) (H : Hp) (e : Int) : Prop := ∀ H' d, Ex H H' → H' d = some (.xd [("why", .int e)]) → E (.ref A.Re) (some d) H'
def WrE (A : Ads) (E : XK) (H : Hp) (e n : Int) : Prop := ∀ H' d, Ex H H' → H' d = some (.xd [("row", .int n), ("kind", .int e)]) → E (.ref A.Wr) (some d) H'
theorem RefE.ex {A : Ads} {E : XK} {H H' : Hp} {e : Int} (h : RefE A E H e) (x : Ex H H') : RefE A E H' e := fun H2 d e2 => h H2 d (x.trans e2)
theorem WrE.ex {A : Ads} {E : XK} {H H' : Hp} {e n : Int} (h : WrE A E H e n) (x : Ex H H') : WrE A E H' e n := fun H2 d e2 => h H2 d (x.trans e2)
/-! ### a rule put -/
theorem one_of {ns : List Int} (h : ns.length = 1) : ∃ x, ns = [x] := by
  match ns, h with
  | [x], _ => exact ⟨x, rfl⟩
theorem two_of {ns : List Int} (h : ns.length = 2) : ∃ x y, ns = [x, y] := by
  match ns, h with
  | [x, y], _ => exact ⟨x, y, rfl⟩
theorem put_rows (r : MR) (n : Nat) (ns : List Int) (hn : n < 9) (hl : n ≠ 8 → ns.length = (boundsM n).length) : (r.put n ns).rows = r.rows.set n ns := by
  rcases kind_of n hn with c | c | c | c | c | c | c | c | c <;> subst c
  case inr.inr.inr.inl =>
    obtain ⟨x, y, rfl⟩ := two_of (hl (by decide))
    rfl
  case inr.inr.inr.inr.inr.inr.inr.inr => rfl
  all_goals
    obtain ⟨x, rfl⟩ := one_of (hl (by decide))
    rfl
theorem RuAt.put {A : Ads} {H : Hp} {ru q dx : Addr} {rl : List Addr} {r : MR} {n : Nat} {ns : List Int} (h : RuAt A H ru rl r) (hn : n < 9) (hl : n ≠ 8 → ns.length = (boundsM n).length) (hq : H q = some (.lst (iV ns))) :
    RuAt A (upd H ru (.ins A.Ru dx (ruF (rl.set n q)))) ru (rl.set n q) (r.put n ns) := by
  refine ⟨⟨dx, upd_same⟩, by rw [List.length_set]; exact h.len, fun j a ns' e1 e2 => ?_⟩
  rw [put_rows r n ns hn hl] at e2
  have key : H a = some (.lst (iV ns')) := by
    by_cases c : n = j
    · subst c
      rw [List.getElem?_set_self (by rw [h.len]; exact hn)] at e1
      rw [List.getElem?_set_self (by rw [rows_len]; exact hn)] at e2
      cases e1
      cases e2
      exact hq
    · rw [List.getElem?_set_ne c] at e1
      rw [List.getElem?_set_ne c] at e2
      exact h.rows j a ns' e1 e2
  have na : a ≠ ru := fun z => h.ob.ne_lst key z.symm
  rw [upd_ne na]
  exact key
theorem pt_Ru_places {rl : List Addr} (h : rl.length = 9) (q : Addr) : putF "places" (.ref q) (ruF rl) = ruF (rl.set 0 q) := by
  match rl, h with
  | [a0, a1, a2, a3, a4, a5, a6, a7, a8], _ => exact put_Ru_places
theorem pt_Ru_form {rl : List Addr} (h : rl.length = 9) (q : Addr) : putF "form" (.ref q) (ruF rl) = ruF (rl.set 1 q) := by
  match rl, h with
  | [a0, a1, a2, a3, a4, a5, a6, a7, a8], _ => exact put_Ru_form
theorem pt_Ru_cap {rl : List Addr} (h : rl.length = 9) (q : Addr) : putF "cap" (.ref q) (ruF rl) = ruF (rl.set 2 q) := by
  match rl, h with
  | [a0, a1, a2, a3, a4, a5, a6, a7, a8], _ => exact put_Ru_cap
theorem pt_Ru_judges {rl : List Addr} (h : rl.length = 9) (q : Addr) : putF "judges" (.ref q) (ruF rl) = ruF (rl.set 3 q) := by
  match rl, h with
  | [a0, a1, a2, a3, a4, a5, a6, a7, a8], _ => exact put_Ru_judges
theorem pt_Ru_fee {rl : List Addr} (h : rl.length = 9) (q : Addr) : putF "fee" (.ref q) (ruF rl) = ruF (rl.set 4 q) := by
  match rl, h with
  | [a0, a1, a2, a3, a4, a5, a6, a7, a8], _ => exact put_Ru_fee
theorem pt_Ru_fine {rl : List Addr} (h : rl.length = 9) (q : Addr) : putF "fine" (.ref q) (ruF rl) = ruF (rl.set 5 q) := by
  match rl, h with
  | [a0, a1, a2, a3, a4, a5, a6, a7, a8], _ => exact put_Ru_fine
theorem pt_Ru_answer {rl : List Addr} (h : rl.length = 9) (q : Addr) : putF "answer" (.ref q) (ruF rl) = ruF (rl.set 6 q) := by
  match rl, h with
  | [a0, a1, a2, a3, a4, a5, a6, a7, a8], _ => exact put_Ru_answer
theorem pt_Ru_begin {rl : List Addr} (h : rl.length = 9) (q : Addr) : putF "begin" (.ref q) (ruF rl) = ruF (rl.set 7 q) := by
  match rl, h with
  | [a0, a1, a2, a3, a4, a5, a6, a7, a8], _ => exact put_Ru_begin
theorem pt_Ru_back {rl : List Addr} (h : rl.length = 9) (q : Addr) : putF "back" (.ref q) (ruF rl) = ruF (rl.set 8 q) := by
  match rl, h with
  | [a0, a1, a2, a3, a4, a5, a6, a7, a8], _ => exact put_Ru_back
theorem kp_write {H H1 : Hp} {p : Addr} {o : HO} (e : Ex H H1) : Kp p H (upd H1 p o) := fun b u n h => by rw [upd_ne n]; exact e b u h
section
variable {P : Program} {w : World} {K : PySem.W.Frag} {mg : Str → Option Value} {base : Heap} {A : Ads}
theorem ru_wr {σ : L2.St} {H H0 : Hp} {ta tv : TE} {D : Ends} {f : Str} {ru q : Addr} {rl : List Addr} {r : MR} {n : Nat} {ns : List Int} {Qn : Hp → Prop} (X : Tx K mg A) (e : Ex H0 H) (h : RuAt A H0 ru rl r) (hq : H0 q = some (.lst (iV ns))) (hn : n < 9) (hl : n ≠ 8 → ns.length = (boundsM n).length) (hv : Ev tv σ H (.ref q)) (ha : Ev ta σ H (.ref ru)) (na : NoAttr K A.Ru f)
    (pt : putF f (.ref q) (ruF rl) = ruF (rl.set n q)) (k : ∀ H', RuAt A H' ru (rl.set n q) (r.put n ns) → Kp ru H0 H' → Qn H') (hD : ∀ H', Qn H' → D.nx σ H') : sFld K ta tv f D σ H :=
  q_st hv ha (h.ob.ex e) X.cl_Ru na (by show 9 < 1000; decide) fun H1 dx e1 _ => by
    rw [pt]
    exact hD _ (k _ ((h.ex (e.trans e1)).put hn hl ((e.trans e1) _ _ hq)) (kp_write (e.trans e1)))
def sp_Ru_put (K : PySem.W.Frag) (A : Ads) : Sp := fun vs H Q _ => ∃ (ru q : Addr) (rl : List Addr) (r : MR) (n : Nat) (ns : List Int), vs = [.ref ru, .str (kindS n), .ref q] ∧ n < 9 ∧ RuAt A H ru rl r ∧ H q = some (.lst (iV ns)) ∧ (n ≠ 8 → ns.length = (boundsM n).length) ∧ ∀ H', RuAt A H' ru (rl.set n q) (r.put n ns) → Kp ru H H' → Q .non H'
theorem ok_Ru_put (X : Tx K mg A) : Okd P w K mg base CX0 1 A.Ru_put ["self", "word", "numbers"] (sp_Ru_put K A) := by
  obtain ⟨fd, F⟩ := X.fn_Ru_put
  refine ⟨fd, F.ok sc_Ru_put (fun vs H Q E h => ?_) (fun cdv A' outer s H vs Q E hr h => ⟨_, (pss_one (ps_if (pt_cmpR op_eq (pv 1) pe_str (nomark _))
      (pss_one (ps_fld (pv 0) (pv 2) rfl))
      (pss_one (ps_if (pt_cmpR op_eq (pv 1) pe_str (nomark _))
        (pss_one (ps_fld (pv 0) (pv 2) rfl))
        (pss_one (ps_if (pt_cmpR op_eq (pv 1) pe_str (nomark _))
          (pss_one (ps_fld (pv 0) (pv 2) rfl))
          (pss_one (ps_if (pt_cmpR op_eq (pv 1) pe_str (nomark _))
            (pss_one (ps_fld (pv 0) (pv 2) rfl))
            (pss_one (ps_if (pt_cmpR op_eq (pv 1) pe_str (nomark _))
              (pss_one (ps_fld (pv 0) (pv 2) rfl))
              (pss_one (ps_if (pt_cmpR op_eq (pv 1) pe_str (nomark _))
                (pss_one (ps_fld (pv 0) (pv 2) rfl))
                (pss_one (ps_if (pt_cmpR op_eq (pv 1) pe_str (nomark _))
                  (pss_one (ps_fld (pv 0) (pv 2) rfl))
                  (pss_one (ps_if (pt_cmpR op_eq (pv 1) pe_str (nomark _))
                    (pss_one (ps_fld (pv 0) (pv 2) rfl))
                    (pss_one (ps_fld (pv 0) (pv 2) rfl)))))))))))))))))), ?_⟩), F.binds fun _ _ _ _ _ _ us hl => match us, hl with | [_, _, _], _ => rfl⟩
  · obtain ⟨_, _, _, _, _, _, rfl, _⟩ := h
    rfl
  · obtain ⟨ru, q, rl, r, n, ns, rfl, hn, h, hq, hl, k⟩ := h
    refine s_if (et_kind 0 hn (by decide) (ev_var rfl)) (fun hb H1 e1 => ?_) (fun hb H1 e1 => ?_)
    · obtain rfl := of_decide_eq_true hb
      exact ru_wr X e1 h hq hn hl (ev_var rfl) (ev_var rfl) X.na_Ru_places (pt_Ru_places h.len q) k fun _ z => z
    have b0 := of_decide_eq_false hb
    refine s_if (et_kind 1 hn (by decide) (ev_var rfl)) (fun hb H2 e2 => ?_) (fun hb H2 e2 => ?_)
    · obtain rfl := of_decide_eq_true hb
      exact ru_wr X (e1.trans e2) h hq hn hl (ev_var rfl) (ev_var rfl) X.na_Ru_form (pt_Ru_form h.len q) k fun _ z => z
    have b1 := of_decide_eq_false hb
    have f2 := e1.trans e2
    refine s_if (et_kind 2 hn (by decide) (ev_var rfl)) (fun hb H3 e3 => ?_) (fun hb H3 e3 => ?_)
    · obtain rfl := of_decide_eq_true hb
      exact ru_wr X (f2.trans e3) h hq hn hl (ev_var rfl) (ev_var rfl) X.na_Ru_cap (pt_Ru_cap h.len q) k fun _ z => z
    have b2 := of_decide_eq_false hb
    have f3 := f2.trans e3
    refine s_if (et_kind 3 hn (by decide) (ev_var rfl)) (fun hb H4 e4 => ?_) (fun hb H4 e4 => ?_)
    · obtain rfl := of_decide_eq_true hb
      exact ru_wr X (f3.trans e4) h hq hn hl (ev_var rfl) (ev_var rfl) X.na_Ru_judges (pt_Ru_judges h.len q) k fun _ z => z
    have b3 := of_decide_eq_false hb
    have f4 := f3.trans e4
    refine s_if (et_kind 4 hn (by decide) (ev_var rfl)) (fun hb H5 e5 => ?_) (fun hb H5 e5 => ?_)
    · obtain rfl := of_decide_eq_true hb
      exact ru_wr X (f4.trans e5) h hq hn hl (ev_var rfl) (ev_var rfl) X.na_Ru_fee (pt_Ru_fee h.len q) k fun _ z => z
    have b4 := of_decide_eq_false hb
    have f5 := f4.trans e5
    refine s_if (et_kind 5 hn (by decide) (ev_var rfl)) (fun hb H6 e6 => ?_) (fun hb H6 e6 => ?_)
    · obtain rfl := of_decide_eq_true hb
      exact ru_wr X (f5.trans e6) h hq hn hl (ev_var rfl) (ev_var rfl) X.na_Ru_fine (pt_Ru_fine h.len q) k fun _ z => z
    have b5 := of_decide_eq_false hb
    have f6 := f5.trans e6
    refine s_if (et_kind 6 hn (by decide) (ev_var rfl)) (fun hb H7 e7 => ?_) (fun hb H7 e7 => ?_)
    · obtain rfl := of_decide_eq_true hb
      exact ru_wr X (f6.trans e7) h hq hn hl (ev_var rfl) (ev_var rfl) X.na_Ru_answer (pt_Ru_answer h.len q) k fun _ z => z
    have b6 := of_decide_eq_false hb
    have f7 := f6.trans e7
    refine s_if (et_kind 7 hn (by decide) (ev_var rfl)) (fun hb H8 e8 => ?_) (fun hb H8 e8 => ?_)
    · obtain rfl := of_decide_eq_true hb
      exact ru_wr X (f7.trans e8) h hq hn hl (ev_var rfl) (ev_var rfl) X.na_Ru_begin (pt_Ru_begin h.len q) k fun _ z => z
    have b7 := of_decide_eq_false hb
    have b8 : n = 8 := by omega
    subst b8
    exact ru_wr X (f7.trans e8) h hq hn hl (ev_var rfl) (ev_var rfl) X.na_Ru_back (pt_Ru_back h.len q) k fun _ z => z
def sp_Re_init (K : PySem.W.Frag) (A : Ads) : Sp := fun vs H Q _ => ∃ (a : Addr) (e : Int), vs = [.ref a, .int e] ∧ H a = some (exo a A.Re none) ∧ ∀ dx, H dx = none → dx ≠ a → Q .non (upd (upd H dx (exd dx [("why", .int e)])) a (exo a A.Re (some dx)))
theorem ok_Re_init (X : Tx K mg A) : Okd P w K mg base CX0 1 A.Re_init ["self", "why"] (sp_Re_init K A) := by
  obtain ⟨fd, F⟩ := X.fn_Re_init
  refine ⟨fd, F.ok sc_Re_init (fun vs H Q E h => ?_) (fun cdv A' outer s H vs Q E hr h => ⟨_, (pss_one (ps_ost (pv 0) (pv 1))), ?_⟩), F.binds fun _ _ _ _ _ _ us hl => match us, hl with | [_, _], _ => rfl⟩
  · obtain ⟨_, _, rfl, _⟩ := h
    rfl
  · obtain ⟨a, e, rfl, h, k⟩ := h
    exact ⟨_, rfl, .ref a, rfl, a, A.Re, rfl, X.ox_Re, X.na_Re_why, .inl ⟨h, fun dx h1 h2 => k dx h1 h2⟩⟩
def sp_Wr_init (K : PySem.W.Frag) (A : Ads) : Sp := fun vs H Q _ => ∃ (a : Addr) (e n : Int), vs = [.ref a, .int e, .int n] ∧ H a = some (exo a A.Wr none) ∧ ∀ H' dx, H dx = none → dx ≠ a → H' a = some (exo a A.Wr (some dx)) → H' dx = some (exd dx [("row", .int n), ("kind", .int e)]) → (∀ b, b ≠ a → b ≠ dx → H' b = H b) → Q .non H'
theorem ok_Wr_init (X : Tx K mg A) : Okd P w K mg base CX0 1 A.Wr_init ["self", "kind", "row"] (sp_Wr_init K A) := by
  obtain ⟨fd, F⟩ := X.fn_Wr_init
  refine ⟨fd, F.ok sc_Wr_init (fun vs H Q E h => ?_) (fun cdv A' outer s H vs Q E hr h => ⟨_, (pss_cons (ps_ost (pv 0) (pv 1))
    (pss_one (ps_ost (pv 0) (pv 2)))), ?_⟩), F.binds fun _ _ _ _ _ _ us hl => match us, hl with | [_, _, _], _ => rfl⟩
  · obtain ⟨_, _, _, rfl, _⟩ := h
    rfl
  · obtain ⟨a, e, n, rfl, h, k⟩ := h
    refine ⟨_, rfl, .ref a, rfl, a, A.Wr, rfl, X.ox_Wr, X.na_Wr_kind, .inl ⟨h, fun dx h1 h2 => ?_⟩⟩
    refine ⟨_, rfl, .ref a, rfl, a, A.Wr, rfl, X.ox_Wr, X.na_Wr_row, .inr ⟨dx, [("kind", .int e)], upd_same, ?_, by show 1 ≤ 900; decide, ?_⟩⟩
    · rw [upd_ne h2]; exact upd_same
    · refine k _ dx h1 h2 ?_ upd_same fun b n1 n2 => ?_
      · rw [upd_ne (Ne.symm h2)]; exact upd_same
      · rw [upd_ne n2, upd_ne n1, upd_ne n2]
theorem raise_Re {σ : L2.St} {H : Hp} {te : TE} {e : Int} {E : XK} (hv : Ev te σ H (.int e)) (k : RefE A E H e) : tMkO A.Re (sp_Re_init K A) [] (tCons te tNil) σ H E :=
  hv H (Ex.refl H) _ fun H1 e1 => ⟨by show 1 ≤ 1000; decide, fun a ha => ⟨a, e, rfl, upd_same, fun dx hdx nda => ⟨rfl, dx, [("why", .int e)], upd_same, by rw [upd_ne nda]; exact upd_same, by rw [upd_ne nda] at hdx; exact hdx, k _ dx (fun b o hb => by
    have hb1 := e1 b o hb
    have na : b ≠ a := ne_of_none hb1 ha
    have nd : b ≠ dx := fun z => by rw [upd_ne nda] at hdx; rw [z, hdx] at hb1; cases hb1
    rw [upd_ne nd, del_ne na, upd_ne na, upd_ne nd, upd_ne na]
    exact hb1) upd_same⟩⟩⟩
theorem raise_Wr {σ : L2.St} {H : Hp} {te tn : TE} {e n : Int} {E : XK} (hv : Ev te σ H (.int e)) (hn : Ev tn σ H (.int n)) (k : WrE A E H e n) : tMkO A.Wr (sp_Wr_init K A) [] (tCons te (tCons tn tNil)) σ H E :=
  hv H (Ex.refl H) _ fun H0 e0 => hn H0 e0 _ fun H1 e1 => ⟨by show 2 ≤ 1000; decide, fun a ha => ⟨a, e, n, rfl, upd_same, fun H2 dx hdx nda h2 h3 kp => ⟨rfl, dx, _, h2, h3, by rw [upd_ne nda] at hdx; exact hdx, k _ dx (fun b o hb => by
    have hb1 := (e0.trans e1) b o hb
    have na : b ≠ a := ne_of_none hb1 ha
    have nd : b ≠ dx := fun z => by rw [upd_ne nda] at hdx; rw [z, hdx] at hb1; cases hb1
    rw [upd_ne nd, del_ne na, kp b na nd, upd_ne na]
    exact hb1) upd_same⟩⟩⟩
end
end Eh

-- EhW8
set_option Elab.async false
set_option linter.all false
set_option maxRecDepth 100000
set_option maxHeartbeats 4000000
namespace Eh
open PySem PySem.Spec PyProof.Rows L2 EhR EhZ Evl
open Vbdbam (cut words)
def names (l : List Nat) : List V := l.map fun k => V.str (kindS k)
theorem kinds_lt {w : List Nat} {k : Nat} (h : k ∈ kindsOf w) : k < 9 := List.mem_range.mp (List.mem_filter.mp h).1
theorem in_names {k : Nat} (hk : k < 9) : ∀ l : List Nat, (∀ j ∈ l, j < 9) → inV (.str (kindS k)) (names l) = l.contains k
  | [], _ => rfl
  | j :: r, h => by
    have ih := in_names hk r fun x hx => h x (List.mem_cons_of_mem _ hx)
    show ((kindS j == kindS k) || inV (.str (kindS k)) (names r)) = (j :: r).contains k
    rw [ih, List.contains_cons]
    congr 1
    rw [Bool.eq_iff_iff, beq_iff_eq, beq_iff_eq, kindS_eq j k (h j List.mem_cons_self) hk]
    exact ⟨Eq.symm, Eq.symm⟩
theorem names_flat (l : List Nat) : (names l).all flatV = true := by
  rw [List.all_eq_true]
  intro x hx
  obtain ⟨k, _, rfl⟩ := List.mem_map.mp hx
  rfl
theorem cut1 {x : V} {r : List V} : cutV (x :: r) (some 1) none = r := by
  unfold cutV
  have e1 : HT.sIx (x :: r).length 0 (some 1) = 1 := by
    show (if (1 : Int) < 0 then ((1 : Int) + ((x :: r).length : Int)).toNat else min (1 : Int).toNat (x :: r).length) = 1
    rw [if_neg (by decide), List.length_cons]
    show min 1 (r.length + 1) = 1
    omega
  have e2 : HT.sIx (x :: r).length (x :: r).length none = (x :: r).length := rfl
  rw [e1, e2, List.length_cons]
  show r.take (r.length + 1 - 1) = r
  rw [Nat.add_sub_cancel, List.take_length]
section
variable {P : Program} {w : World} {K : PySem.W.Frag} {mg : Str → Option Value} {base : Heap} {A : Ads}
theorem orders (X : Tx K mg A) (H : Hp) : SqT K H A.ORDER ((List.range 9).map fun k => V.str (kindS k)) := X.t_ORDER.sq H
def sp_f_put_row (K : PySem.W.Frag) (A : Ads) : Sp := fun vs H Q E => ∃ (ru : Addr) (rl : List Addr) (r : MR) (wp : Addr) (was : List Addr) (ws : List (List Nat)) (tp : Addr) (told : List Nat) (n : Int),
  vs = [.ref ru, .ref wp, .ref tp, .int n] ∧ RuAt A H ru rl r ∧ H wp = some (.lst (refs was)) ∧ LLA H was ws ∧ ws ≠ [] ∧ (∀ x ∈ ws, x ≠ [] ∧ x.length ≤ 1000) ∧ ws.length ≤ 1001 ∧ H tp = some (.lst (names told)) ∧ (∀ k ∈ told, k < 9) ∧ told.length ≤ 2000 ∧ tp ∉ rl ∧
  (match rowM r told ws with
    | .error e => WrE A E H e n
    | .ok x => ∀ H' rl', RuAt A H' ru rl' x.1 → H' tp = some (.lst (names x.2)) → (∀ b o, b ≠ ru → b ≠ tp → H b = some o → H' b = some o) → (∀ b ∈ rl', b ∈ rl ∨ H b = none) → Q .non H')
theorem ok_f_put_row (X : Tx K mg A) : Okd P w K mg base (L2.CX P w) 3 A.f_put_row ["rules", "words", "told", "number"] (sp_f_put_row K A) := by
  obtain ⟨fd_Ru_put, G_Ru_put, b_Ru_put⟩ := ok_Ru_put (P := P) (w := w) (base := base) X
  obtain ⟨fd_f_are_right, G_f_are_right, b_f_are_right⟩ := ok_f_are_right (P := P) (w := w) (base := base) X
  obtain ⟨fd_Wr_init, G_Wr_init, b_Wr_init⟩ := ok_Wr_init (P := P) (w := w) (base := base) X
  obtain ⟨fd_f_number_of, G_f_number_of, b_f_number_of⟩ := ok_f_number_of (P := P) (w := w) (base := base) X
  obtain ⟨fd_f_is_word, G_f_is_word, b_f_is_word⟩ := ok_f_is_word (P := P) (w := w) (base := base) X
  obtain ⟨fd, F⟩ := X.fn_f_put_row
  refine ⟨fd, F.okX sc_f_put_row (fun vs H Q E h => ?_) (fun cdv A' outer s H vs Q E hr h => ⟨_, (pss_cons (ps_setLc (i := 4) (own := [("word", 6)]) (g := gName 6) (tt := (tB (tCall (sp_f_is_word K A) [] E0 (tCons (tOp (rIxL K) (tVar 1) (tC (.int 0))) (tCons (tVar 6) tNil))))) rfl sc_f_put_row.nd rfl rfl (sw_true rfl rfl rfl (by decide +kernel)) (pi_tup (pe_glob (v := .ref A.ORDER) rfl X.c_ORDER rfl)) (blkOk_by (N := ["rules", "words", "told", "number", "names", "numbers", "word"]) (sc := defScope s_f_put_row) (own := [("word", 6)]) (by decide +kernel)) (fun _ _ _ _ _ => pg_name (i := 6) sc_f_put_row.nd rfl (.inl rfl)) (fun _ _ _ _ _ => (pts_one (pt_val (pe_call G_f_is_word (hr.mono (by decide)) rfl X.g_f_is_word X.k_f_is_word b_f_is_word .nil pass0 (pa_cons (pe_ix ix_list (pv 1) pe_int (fun _ _ => rfl)) (pa_cons (pv 6) pa_nil)))))) (fun _ _ _ _ _ => (pv 6)))
    (pss_cons (ps_if (pt_cmpR (op_eqNil (hu64 hr)) (pv 4) (pe_lst pa_nil) (nomark _))
      (pss_one (ps_raise rfl (takes_of rfl rfl rfl rfl) (pmk_oex X.ox_Wr X.i_Wr X.ti_Wr G_Wr_init (hr.mono (by decide)) b_Wr_init .nil pass0 rfl X.g_Wr (by exact (pa_cons (pe_gi rfl X.c_NO_WORD) (pa_cons (pv 3) pa_nil))))))
      pss_nil)
    (pss_cons (ps_if (pt_cmpR op_in_seq (pe_ix ix_list (pv 4) pe_int (fun _ _ => rfl)) (pv 2) rfl)
      (pss_one (ps_raise rfl (takes_of rfl rfl rfl rfl) (pmk_oex X.ox_Wr X.i_Wr X.ti_Wr G_Wr_init (hr.mono (by decide)) b_Wr_init .nil pass0 rfl X.g_Wr (by exact (pa_cons (pe_gi rfl X.c_TWICE) (pa_cons (pv 3) pa_nil))))))
      pss_nil)
    (pss_cons (ps_setLc (i := 5) (own := [("word", 6)]) (g := gName 6) rfl sc_f_put_row.nd rfl rfl (sw_true rfl rfl rfl (by decide +kernel)) (pi_list (pe_slice sl_list (pv 1) (po_some pe_int) po_none)) (blkOk_by (N := ["rules", "words", "told", "number", "names", "numbers", "word"]) (sc := defScope s_f_put_row) (own := [("word", 6)]) (by decide +kernel)) (fun _ _ _ _ _ => pg_name (i := 6) sc_f_put_row.nd rfl (.inl rfl)) (fun _ _ _ _ _ => pts_nil) (fun _ _ _ _ _ => (pe_call G_f_number_of (hr.mono (by decide)) rfl X.g_f_number_of X.k_f_number_of b_f_number_of .nil pass0 (pa_cons (pv 6) pa_nil))))
    (pss_cons (ps_if (pt_not (pt_val (pe_call G_f_are_right (hr.mono (by decide)) rfl X.g_f_are_right X.k_f_are_right b_f_are_right .nil pass0 (pa_cons (pe_ix ix_list (pv 4) pe_int (fun _ _ => rfl)) (pa_cons (pv 5) pa_nil)))))
      (pss_one (ps_raise rfl (takes_of rfl rfl rfl rfl) (pmk_oex X.ox_Wr X.i_Wr X.ti_Wr G_Wr_init (hr.mono (by decide)) b_Wr_init .nil pass0 rfl X.g_Wr (by exact (pa_cons (pe_gi rfl X.c_NO_NUMBERS) (pa_cons (pv 3) pa_nil))))))
      pss_nil)
    (pss_cons (ps_expr (pe_meth (pv 0) X.cl_Ru X.m_Ru_put G_Ru_put (hr.mono (by decide)) b_Ru_put .nil pass0 (pa_cons (pe_ix ix_list (pv 4) pe_int (fun _ _ => rfl)) (pa_cons (pv 5) pa_nil))))
    (pss_one (ps_expr (pe_bm PySem.F.plainAttrs_list PySem.F.slot_list_append PySem.F.type_list_append mt_append (pv 2) (pa_cons (pe_ix ix_list (pv 4) pe_int (fun _ _ => rfl)) pa_nil)))))))))), ?_⟩), F.binds fun _ _ _ _ _ _ us hl => match us, hl with | [_, _, _, _], _ => rfl⟩
  · obtain ⟨_, _, _, _, _, _, _, _, _, rfl, _⟩ := h
    rfl
  · obtain ⟨ru, rl, r, wp, was, ws, tp, told, n, rfl, h, hw, ll, hne, hws, hwl, ht, htk, htl, ntr, k⟩ := h
    obtain ⟨w0, wr, rfl⟩ : ∃ w0 wr, ws = w0 :: wr := by
      cases ws with
      | nil => exact absurd rfl hne
      | cons x y => exact ⟨x, y, rfl⟩
    have hlen := ll.len
    obtain ⟨a0, ar, rfl⟩ : ∃ a0 ar, was = a0 :: ar := by
      cases was with
      | nil => cases hlen
      | cons x y => exact ⟨x, y, rfl⟩
    have h0 := ll.ob 0 a0 w0 rfl rfl
    have lr : LLA H ar wr := ⟨by simpa using hlen, fun i a x e1 e2 => ll.ob (i + 1) a x e1 e2⟩
    unfold rowM at k
    have k' : (match kindsOf w0 with
      | [] => WrE A E H 1 n
      | j :: _ => if told.contains j = true then WrE A E H 2 n else if rightM j (wr.map numM) = false then WrE A E H 3 n else ∀ H' rl', RuAt A H' ru rl' (r.put j (wr.map numM)) → H' tp = some (.lst (names (told ++ [j]))) → (∀ b o, b ≠ ru → b ≠ tp → H b = some o → H' b = some o) → (∀ b ∈ rl', b ∈ rl ∨ H b = none) → Q .non H') := by
      have e0 : (w0 :: wr).headD [] = w0 := rfl
      have e1 : (w0 :: wr).tail = wr := rfl
      rw [e0, e1] at k
      cases hk : kindsOf w0 with
      | nil => rw [hk] at k; exact k
      | cons j t =>
        rw [hk] at k
        by_cases c1 : told.contains j = true
        · show if told.contains j = true then _ else _
          rw [if_pos c1]
          have k2 : (match (if told.contains j = true then Except.error 2 else if rightM j (wr.map numM) = false then Except.error 3 else Except.ok (r.put j (wr.map numM), told ++ [j]) : Except Int (MR × List Nat)) with | .error e => WrE A E H e n | .ok x => _) := k
          rw [if_pos c1] at k2
          exact k2
        · show if told.contains j = true then _ else _
          rw [if_neg c1]
          have k2 : (match (if told.contains j = true then Except.error 2 else if rightM j (wr.map numM) = false then Except.error 3 else Except.ok (r.put j (wr.map numM), told ++ [j]) : Except Int (MR × List Nat)) with | .error e => WrE A E H e n | .ok x => _) := k
          rw [if_neg c1] at k2
          by_cases c2 : rightM j (wr.map numM) = false
          · rw [if_pos c2] at k2 ⊢
            exact k2
          · rw [if_neg c2] at k2 ⊢
            exact k2
    clear k
    have ev1 := el_lcT (K := K) (tl := tC (.ref A.ORDER)) (t := tB (tCall (sp_f_is_word K A) [] E0 (tCons (tOp (rIxL K) (tVar 1) (tC (.int 0))) (tCons (tVar 6) tNil)))) (te := tVar 6) (σ := start ["rules", "words", "told", "number", "names", "numbers", "word"] [.ref ru, .ref wp, .ref tp, .int n]) (j := 6) (vs := [6]) (H := H) (l := List.range 9) (F := fun k => V.str (kindS k)) 0 (fun j => decide (w0 = kindAt j)) (fun j => V.str (kindS j)) ev_c (fun H1 => orders X H1) (by decide) (fun _ => rfl)
      (fun j i H1 e hj => et_B (ev_call (ea_cons (ev_ix0 (ev_var rfl) (e _ _ hw)) (ea_cons (ev_var rfl) ea_nil)) fun H2 e2 Q' q E' => by
        have hj9 : j < 9 := List.mem_range.mp (List.mem_of_getElem? hj)
        refine ⟨a0, w0, kindS j, rfl, (e.trans e2) _ _ h0, by have := kindS_size j hj9; omega, ?_⟩
        rw [kindS_cps j hj9]
        exact q)) (fun j i H1 e hj _ => ev_var rfl)
    have ev2 : EvL _ _ H (names (kindsOf w0)) := ev1
    refine q_asgL ev2 fun np H1 hnp e1 l1 => ?_
    cases hk : kindsOf w0 with
    | nil =>
      rw [hk] at k' l1
      refine q_when (b := true) (et_test (ev_nil (ev_var rfl) (SqL.of l1))) (fun _ H2 e2 => raise_Wr ev_c (ev_var rfl) ((WrE.ex k' e1).ex e2)) (fun z => by cases z)
    | cons j t =>
      rw [hk] at k' l1
      have hj9 : j < 9 := kinds_lt (w := w0) (by rw [hk]; exact List.mem_cons_self)
      have k2 : if told.contains j = true then WrE A E H 2 n else if rightM j (wr.map numM) = false then WrE A E H 3 n else ∀ H' rl', RuAt A H' ru rl' (r.put j (wr.map numM)) → H' tp = some (.lst (names (told ++ [j]))) → (∀ b o, b ≠ ru → b ≠ tp → H b = some o → H' b = some o) → (∀ b ∈ rl', b ∈ rl ∨ H b = none) → Q .non H' := k'
      refine q_when (b := false) (et_test (ev_nil (ev_var rfl) (SqL.of l1))) (fun z => by cases z) (fun _ H2 e2 => ?_)
      have f2 := e1.trans e2
      have l2 : H2 np = some (.lst (V.str (kindS j) :: names t)) := e2 _ _ l1
      have lt2 := f2 _ _ ht
      refine q_when (b := told.contains j) (et_test (ev_is (ev_op (ev_ix0 (ev_var rfl) l2) (ev_var rfl) (rv_isL (SqL.of lt2) rfl (names_flat told))) (by rw [in_names hj9 told htk]))) (fun hb H3 e3 => ?_) (fun hb H3 e3 => ?_)
      · rw [if_pos hb] at k2
        exact raise_Wr ev_c (ev_var rfl) ((k2.ex f2).ex e3)
      · rw [if_neg (by rw [hb]; decide)] at k2
        have f3 := f2.trans e3
        have l3 := e3 _ _ l2
        have hzip : refs ar = (ar.zip wr).map fun p => V.ref p.1 := zip_refs lr.len
        have evn := el_lcN (K := K) (tl := tSl (rSlL K) (tVar 1) (tPart (tC (.int 1))) tNoPart) (t := tYes) (te := tCall (sp_f_number_of K A) [] E0 (tCons (tVar 6) tNil)) (σ := [some (.ref ru), some (.ref wp), some (.ref tp), some (.int n), some (.ref np), none, none]) (j := 6) (vs := [6]) (H := H3) (l := ar.zip wr) (F := fun p => V.ref p.1) (0, ([] : List Nat)) (fun _ => true) (fun p => V.int (numM p.2))
          (x_of_L (by
            have q := el_sl (K := K) (te := tVar 1) (tl := tPart (tC (.int 1))) (th := tNoPart) (σ := [some (.ref ru), some (.ref wp), some (.ref tp), some (.int n), some (.ref np), none, none]) (H := H3) (ev_var rfl) (eo_some ev_c) eo_none (SqL.of (f3 _ _ hw))
            have e : cutV (refs (a0 :: ar)) (some 1) none = (ar.zip wr).map fun p => V.ref p.1 := by
              rw [← hzip]
              exact cut1
            rw [e] at q
            exact q)) (by rw [List.length_zip]; have := lr.len; rw [List.length_cons] at hwl; omega) (fun _ => rfl) (fun p i H4 e4 hp => et_yes)
          (fun p i H4 e4 hp _ => ev_call (ea_cons (ev_var rfl) ea_nil) fun H5 e5 Q' q E' => ⟨p.1, p.2, rfl, ((f3.trans e4).trans e5) _ _ (lr.zip hp), (hws p.2 (List.mem_cons_of_mem _ (List.mem_of_getElem? (zip_get hp).2))).2, (hws p.2 (List.mem_cons_of_mem _ (List.mem_of_getElem? (zip_get hp).2))).1, q⟩)
        rw [filter_all, zip_map lr.len (fun x => V.int (numM x))] at evn
        have en : wr.map (fun x => V.int (numM x)) = iV (wr.map numM) := by unfold iV; rw [List.map_map]; rfl
        rw [en] at evn
        refine q_asgL evn fun q H4 hq e4 l4 => ?_
        have f4 := f3.trans e4
        have np4 := e4 _ _ l3
        refine q_when (b := !rightM j (wr.map numM)) (et_not (et_B (ev_call (ea_cons (ev_ix0 (ev_var rfl) np4) (ea_cons (ev_var rfl) ea_nil)) fun H5 e5 Q' q' E' => ⟨j, q, wr.map numM, rfl, hj9, e5 _ _ l4, q'⟩))) (fun hb2 H5 e5 => ?_) (fun hb2 H5 e5 => ?_)
        · have hr : rightM j (wr.map numM) = false := by
            revert hb2
            cases rightM j (wr.map numM) with
            | false => intro _; rfl
            | true => intro z; cases z
          rw [if_pos hr] at k2
          exact raise_Wr ev_c (ev_var rfl) ((k2.ex f4).ex e5)
        · have hr : rightM j (wr.map numM) = true := by
            revert hb2
            cases rightM j (wr.map numM) with
            | true => intro _; rfl
            | false => intro z; cases z
          rw [if_neg (by rw [hr]; decide)] at k2
          have f5 := f4.trans e5
          have hl8 : j ≠ 8 → (wr.map numM).length = (boundsM j).length := fun c => by
            unfold rightM at hr
            rw [if_neg c, Bool.and_eq_true] at hr
            exact of_decide_eq_true hr.1
          have hqH : H q = none := fresh_back f3 hq
          have hnpH : H np = none := hnp
          have npru : np ≠ ru := by
            obtain ⟨dx, o⟩ := h.ob
            exact (ne_of_none o hnpH).symm
          have nptp : np ≠ tp := (ne_of_none ht hnpH).symm
          have tpru : tp ≠ ru := fun z => h.ob.ne_lst ht z.symm
          refine q_meth (ev_var rfl) (h.ob.ex f5) (no_Ru_put _) (ea_cons (ev_ix0 (ev_var rfl) (e5 _ _ np4)) (ea_cons (ev_var rfl) ea_nil)) fun H6 e6 => ⟨ru, q, rl, r, j, wr.map numM, rfl, hj9, h.ex (f5.trans e6), (e5.trans e6) _ _ l4, hl8, fun H7 h7 kp7 => ?_⟩
          have f6 := f5.trans e6
          have tp7 := kp7 _ _ tpru (f6 _ _ ht)
          have np7 := kp7 _ _ npru ((e5.trans e6) _ _ np4)
          refine s_app tp7 (ev_var rfl) (ev_ix0 (ev_var rfl) np7) (by unfold names; rw [List.length_map]; omega) fun H8 e8 => ?_
          have ntr' : tp ∉ rl.set j q := fun z => by
            rcases List.mem_or_eq_of_mem_set z with y | y
            · exact ntr y
            · rw [y, hqH] at ht; cases ht
          refine k2 _ (rl.set j q) ((h7.ex e8).off (Ne.symm tpru) ntr') ?_ (fun b o n1 n2 hb => ?_) fun b hb => ?_
          · rw [upd_same]
            unfold names
            rw [List.map_append]
            rfl
          · rw [upd_ne n2]
            exact e8 _ _ (kp7 _ _ n1 (f6 _ _ hb))
          · rcases List.mem_or_eq_of_mem_set hb with y | y
            · exact .inl y
            · exact .inr (y ▸ hqH)
theorem make_Ru {σ : L2.St} {H : Hp} {E : XK} {Q : VK} (k : ∀ p H1 rl, H p = none → Ex H H1 → RuAt A H1 p rl MR.fresh → (∀ b ∈ rl, H b = none) → Q (.ref p) H1) : tMake A.Ru (sp_Ru_init K A) [] E tNil σ H Q :=
  fun ru dx h1 h2 h3 => ⟨ru, dx, rfl, upd_same, fun H1 rl hru kp hrl => ⟨rfl, k ru H1 rl h1 (fun b o hb => by
    have nb : b ≠ ru := ne_of_none hb h1
    have nd : b ≠ dx := ne_of_none hb h2
    refine kp b o nb ?_
    rw [upd_ne nb, upd_ne nd]
    exact hb) hru fun b hb => by
    have q := hrl b hb
    by_cases c : b = ru
    · rw [c, upd_same] at q; cases q
    · rw [upd_ne c] at q
      by_cases d : b = dx
      · rw [d]; exact h2
      · rw [upd_ne d] at q; exact q⟩⟩
theorem q_mkRu {σ : L2.St} {H : Hp} {E : XK} {D : Ends} {tz : TS} {i : Nat} (k : ∀ p H1 rl, H p = none → Ex H H1 → RuAt A H1 p rl MR.fresh → (∀ b ∈ rl, H b = none) → tz D (σ.set i (some (.ref p))) H1) : tSeq (tAsg (tMake A.Ru (sp_Ru_init K A) [] E tNil) (gName i)) tz D σ H :=
  make_Ru (K := K) (A := A) (σ := σ) (H := H) (E := E) (Q := fun v H1 => tz D (σ.set i (some v)) H1) k
theorem cut_parts (sep : Nat) (l : List Nat) : (cut sep l).length ≤ l.length + 1 ∧ ∀ x ∈ cut sep l, x.length ≤ l.length := by
  induction l with
  | nil =>
    refine ⟨Nat.le_refl _, fun x hx => ?_⟩
    have : x = [] := by simpa [cut] using hx
    rw [this]
    exact Nat.le_refl _
  | cons c r ih =>
    obtain ⟨i1, i2⟩ := ih
    unfold cut
    split
    · refine ⟨by rw [List.length_cons, List.length_cons]; omega, fun x hx => ?_⟩
      rcases List.mem_cons.mp hx with e | e
      · rw [e]; exact Nat.zero_le _
      · have := i2 x e
        rw [List.length_cons]
        omega
    · split
      · rename_i hc
        exact absurd hc (cut_ne sep r)
      · rename_i y t hc
        rw [hc] at i1 i2
        refine ⟨by rw [List.length_cons] at i1 ⊢; rw [List.length_cons]; omega, fun x hx => ?_⟩
        rcases List.mem_cons.mp hx with e | e
        · rw [e, List.length_cons, List.length_cons]
          have := i2 y List.mem_cons_self
          omega
        · have := i2 x (List.mem_cons_of_mem _ e)
          rw [List.length_cons]
          omega
theorem words_parts (l : List Nat) : (words l).length ≤ l.length + 1 ∧ ∀ x ∈ words l, x ≠ [] ∧ x.length ≤ l.length := by
  obtain ⟨h1, h2⟩ := cut_parts 32 l
  unfold words
  refine ⟨Nat.le_trans (List.length_filter_le _ _) h1, fun x hx => ?_⟩
  obtain ⟨m1, m2⟩ := List.mem_filter.mp hx
  refine ⟨fun z => ?_, h2 x m1⟩
  rw [z] at m2
  cases m2
def sp_f_rules_of (K : PySem.W.Frag) (A : Ads) : Sp := fun vs H Q E => ∃ (a : Addr) (t : List Nat), vs = [.ref a] ∧ H a = some (.lst (bys t)) ∧ t.length ≤ 1000 ∧
  (match rulesM t with
    | .error x => WrE A E H x.1 x.2
    | .ok r => ∀ p H' rl, Ex H H' → RuAt A H' p rl r → H p = none → (∀ b ∈ rl, H b = none) → Q (.ref p) H')
theorem rowM_told {r : MR} {told : List Nat} {ws : List (List Nat)} {x : MR × List Nat} (h : rowM r told ws = .ok x) (ht : ∀ k ∈ told, k < 9) : (∀ k ∈ x.2, k < 9) ∧ x.2.length = told.length + 1 := by
  unfold rowM at h
  cases hk : kindsOf (ws.headD []) with
  | nil => rw [hk] at h; cases h
  | cons j t =>
    rw [hk] at h
    have hj : j < 9 := kinds_lt (w := ws.headD []) (by rw [hk]; exact List.mem_cons_self)
    have h2 : (if told.contains j = true then Except.error 2 else if rightM j (ws.tail.map numM) = false then Except.error 3 else Except.ok (r.put j (ws.tail.map numM), told ++ [j]) : Except Int (MR × List Nat)) = .ok x := h
    split at h2
    · cases h2
    · split at h2
      · cases h2
      · cases h2
        refine ⟨fun k hk => ?_, by show (told ++ [j]).length = _; rw [List.length_append]; rfl⟩
        have hk' : k ∈ told ++ [j] := hk
        rcases List.mem_append.mp hk' with y | y
        · exact ht k y
        · have : k = j := by simpa using y
          rw [this]; exact hj
theorem ok_f_rules_of (X : Tx K mg A) : Okd P w K mg base (L2.CX P w) 4 A.f_rules_of ["text"] (sp_f_rules_of K A) := by
  obtain ⟨fd_f_rows_of, G_f_rows_of, b_f_rows_of⟩ := ok_f_rows_of (P := P) (w := w) (base := base) X
  obtain ⟨fd_f_put_row, G_f_put_row, b_f_put_row⟩ := ok_f_put_row (P := P) (w := w) (base := base) X
  obtain ⟨fd_f_words_of, G_f_words_of, b_f_words_of⟩ := ok_f_words_of (P := P) (w := w) (base := base) X
  obtain ⟨fd_Ru_init, G_Ru_init, b_Ru_init⟩ := ok_Ru_init (P := P) (w := w) (base := base) X
  obtain ⟨fd, F⟩ := X.fn_f_rules_of
  refine ⟨fd, F.okX sc_f_rules_of (fun vs H Q E h => ?_) (fun cdv A' outer s H vs Q E hr h => ⟨_, (pss_cons (ps_set (i := 1) sc_f_rules_of.nd rfl (Or.inl rfl) (pe_make0 X.mk_Ru G_Ru_init (hr.mono (by decide)) rfl X.g_Ru b_Ru_init .nil pass0))
    (pss_cons (ps_set (i := 2) sc_f_rules_of.nd rfl (Or.inl rfl) (pe_lst pa_nil))
    (pss_cons (ps_for (passes_of rfl) rfl (pi_enum (by rfl) X.b_enumerate (pa_cons (pe_call G_f_rows_of (hr.mono (by decide)) rfl X.g_f_rows_of X.k_f_rows_of b_f_rows_of .nil pass0 (pa_cons (pv 0) pa_nil)) pa_nil)) (pg_tup rfl (pgs_cons (pg_name (i := 3) sc_f_rules_of.nd rfl (Or.inl rfl)) (pgs_cons (pg_name (i := 4) sc_f_rules_of.nd rfl (Or.inl rfl)) pgs_nil)))
      (pss_cons (ps_set (i := 5) sc_f_rules_of.nd rfl (Or.inl rfl) (pe_call G_f_words_of (hr.mono (by decide)) rfl X.g_f_words_of X.k_f_words_of b_f_words_of .nil pass0 (pa_cons (pv 4) pa_nil)))
      (pss_one (ps_if (pt_cmpR (op_neNil (hu64 hr)) (pv 5) (pe_lst pa_nil) (nomark _))
        (pss_one (ps_expr (pe_call G_f_put_row (hr.mono (by decide)) rfl X.g_f_put_row X.k_f_put_row b_f_put_row .nil passE (pa_cons (pv 1) (pa_cons (pv 5) (pa_cons (pv 2) (pa_cons (pe_op op_add (pv 3) pe_int) pa_nil)))))))
        pss_nil))))
    (pss_one (ps_ret (pv 1)))))), ?_⟩), F.binds fun _ _ _ _ _ _ us hl => match us, hl with | [_], _ => rfl⟩
  · obtain ⟨_, _, rfl, _⟩ := h
    rfl
  · obtain ⟨a, t, rfl, ha, hl, k⟩ := h
    refine q_mkRu fun ru H1 rl h1 f1 hru hrl0 => ?_
    refine q_asgL (el_lst ea_nil (by decide)) fun tp H2 htp e2 l2 => ?_
    have f2 := f1.trans e2
    have hru2 := hru.ex e2
    have htpH : H tp = none := fresh_back f1 htp
    have tpru : tp ≠ ru := fun z => by
      obtain ⟨d0, o0⟩ := hru.ob
      rw [z, o0] at htp; cases htp
    have tprl : tp ∉ rl := fun z => by
      obtain ⟨xs, hx⟩ := hru.lst z
      rw [hx] at htp; cases htp
    refine q_call (ea_cons (ev_var rfl) ea_nil) fun H3 e3 => ⟨a, t, rfl, (f2.trans e3) _ _ ha, hl, fun p H4 as hp e4 lp ll lf => ⟨p, refs as, rfl, SqL.of lp, ?_⟩⟩
    have f4 := (f2.trans e3).trans e4
    have pru : p ≠ ru := fun z => by
      obtain ⟨d0, o0⟩ := (hru2.ex e3).ob
      rw [z, o0] at hp; cases hp
    have ptp : p ≠ tp := fun z => by
      have := e3 _ _ l2
      rw [z, this] at hp; cases hp
    have asru : ∀ b ∈ as, b ≠ ru := fun b hb z => by
      obtain ⟨d0, o0⟩ := (hru2.ex e3).ob
      have := lf b hb
      rw [z, o0] at this; cases this
    have astp : ∀ b ∈ as, b ≠ tp := fun b hb z => by
      have q := lf b hb
      have := e3 _ _ l2
      rw [z, this] at q; cases q
    obtain ⟨cl1, cl2⟩ := cut_parts 10 t
    refine for_enumL (D := { nx := _, rt := _ }) (fun i σ' H' => (∃ v u x, σ' = [some (.ref a), some (.ref ru), some (.ref tp), v, u, x]) ∧ Ex H H' ∧ H' p = some (.lst (refs as)) ∧ LLA H' as (cut 10 t) ∧ ∃ r told rl', RuAt A H' ru rl' r ∧ H' tp = some (.lst (names told)) ∧ (∀ k ∈ told, k < 9) ∧ told.length ≤ i ∧ tp ∉ rl' ∧ (∀ b ∈ rl', H b = none) ∧ rulesM t = linesM (i + 1) r told ((cut 10 t).drop i))
      ⟨⟨_, _, _, rfl⟩, f4, lp, ll, MR.fresh, [], rl, (hru2.ex e3).ex e4, (e3.trans e4) _ _ l2, (fun k hk => by cases hk), Nat.le_refl _, tprl, hrl0, rfl⟩ (fun i σ' H' q => SqL.of q.2.2.1) (fun i x T σ' H' hx q hT => g_pair (SqT.of upd_same) ?_) fun σ' H' q => ?_
    · obtain ⟨⟨v, u, y, rfl⟩, e, lp', ll', r, told, rl', hr', tp', htk, htl, tpr', hrl', hmain⟩ := q
      have hxr : (as.map V.ref)[i]? = some x := hx
      obtain ⟨b, hb, rfl⟩ : ∃ b, as[i]? = some b ∧ x = V.ref b := by
        rw [List.getElem?_map] at hxr
        cases q : as[i]? with
        | none => rw [q] at hxr; cases hxr
        | some b => rw [q] at hxr; exact ⟨b, rfl, (Option.some.inj hxr).symm⟩
      obtain ⟨ln, hln⟩ := get_len ll'.len hb
      have hbl := ll'.ob i b ln hb hln
      have eT := Ex.new (o := .tup [.int (i : Nat), .ref b]) hT
      have hil : i < (cut 10 t).length := (List.getElem?_eq_some_iff.mp hln).1
      have hdr : (cut 10 t).drop i = ln :: (cut 10 t).drop (i + 1) := by
        rw [List.drop_eq_getElem_cons hil]
        rw [List.getElem?_eq_getElem hil] at hln
        rw [Option.some.inj hln]
      have lnl : ln.length ≤ 1000 := Nat.le_trans (cl2 ln (List.mem_of_getElem? hln)) hl
      obtain ⟨wl, wx⟩ := words_parts ln
      refine q_call (ea_cons (ev_var rfl) ea_nil) fun H5 e5 => ⟨b, ln, rfl, e5 _ _ (eT _ _ hbl), lnl, fun wp H6 was hwp e6 lw llw _ => ?_⟩
      have f6 := (eT.trans e5).trans e6
      have hwel : (refs was).isEmpty = (words ln).isEmpty := by
        have := llw.len
        cases was with
        | nil =>
          cases hw : words ln with
          | nil => rfl
          | cons => rw [hw] at this; cases this
        | cons =>
          cases hw : words ln with
          | nil => rw [hw] at this; cases this
          | cons => rfl
      refine s_when (b := !(words ln).isEmpty) (et_is (et_test (ev_nil (ev_var rfl) (SqL.of lw))) (by rw [hwel]; rfl)) (fun hb2 H7 e7 => ?_) (fun hb2 H7 e7 => ?_)
      · have hwne : words ln ≠ [] := fun z => by rw [z] at hb2; cases hb2
        have f7 := f6.trans e7
        refine q_call (ea_cons (ev_var rfl) (ea_cons (ev_var rfl) (ea_cons (ev_var rfl) (ea_cons (ev_i0 (ev_var rfl) ev_c) ea_nil)))) fun H8 e8 => ⟨ru, rl', r, wp, was, words ln, tp, told, ((i : Nat) : Int) + 1, rfl, hr'.ex (f7.trans e8), (e7.trans e8) _ _ lw, llw.ex (e7.trans e8), hwne, fun x hx => ⟨(wx x hx).1, by have := (wx x hx).2; omega⟩, by omega, (f7.trans e8) _ _ tp', htk, by omega, tpr', ?_⟩
        have f8 := f7.trans e8
        have hl1 : linesM (i + 1) r told (ln :: (cut 10 t).drop (i + 1)) = match rowM r told (words ln) with
            | .error e => .error (e, ((i + 1 : Nat) : Int))
            | .ok x => linesM (i + 1 + 1) x.1 x.2 ((cut 10 t).drop (i + 1)) := by
          conv => lhs; unfold linesM
          rw [if_neg hwne]
          all_goals (cases rowM r told (words ln) <;> rfl)
        rw [hdr, hl1] at hmain
        cases hrow : rowM r told (words ln) with
        | error e0 =>
          rw [hrow] at hmain
          rw [hmain] at k
          have k2 : WrE A E H e0 ((i + 1 : Nat) : Int) := k
          have : ((i + 1 : Nat) : Int) = (i : Int) + 1 := by omega
          rw [this] at k2
          exact k2.ex (e.trans f8)
        | ok x =>
          rw [hrow] at hmain
          obtain ⟨tk1, tk2⟩ := rowM_told hrow htk
          intro H9 rl9 h9 tp9 keep9 hrl9
          refine ⟨⟨_, _, _, rfl⟩, fun c o hc => keep9 c o (fun z => by rw [z, h1] at hc; cases hc) (fun z => by rw [z, htpH] at hc; cases hc) ((e.trans f8) _ _ hc), keep9 _ _ pru ptp (f8 _ _ lp'), ⟨ll'.len, fun j c v h1 h2 => keep9 c _ (asru c (List.mem_of_getElem? h1)) (astp c (List.mem_of_getElem? h1)) (f8 _ _ (ll'.ob j c v h1 h2))⟩, x.1, x.2, rl9, h9, tp9, tk1, by omega, fun z => ?_, fun c hc => ?_, hmain⟩
          · rcases hrl9 tp z with y | y
            · exact tpr' y
            · rw [f8 _ _ tp'] at y; cases y
          · rcases hrl9 c hc with y | y
            · exact hrl' c y
            · exact fresh_back (e.trans f8) y
      · have hwe : words ln = [] := by
          cases hw : words ln with
          | nil => rfl
          | cons => rw [hw] at hb2; cases hb2
        have hl1 : linesM (i + 1) r told (ln :: (cut 10 t).drop (i + 1)) = linesM (i + 1 + 1) r told ((cut 10 t).drop (i + 1)) := by
          conv => lhs; unfold linesM
          rw [if_pos hwe]
        rw [hdr, hl1] at hmain
        have f7 := f6.trans e7
        exact ⟨⟨_, _, _, rfl⟩, e.trans f7, f7 _ _ lp', ll'.ex f7, r, told, rl', hr'.ex f7, f7 _ _ tp', htk, by omega, tpr', hrl', hmain⟩
    · obtain ⟨⟨v, u, y, rfl⟩, e, lp', ll', r, told, rl', hr', tp', htk, htl, tpr', hrl', hmain⟩ := q
      have hlen : (refs as).length = (cut 10 t).length := by unfold refs; rw [List.length_map]; exact ll'.len
      rw [hlen, List.drop_length] at hmain
      have hm : rulesM t = .ok r := hmain
      rw [hm] at k
      exact s_ret (ev_var rfl) fun H5 e5 => k ru H5 rl' (e.trans e5) (hr'.ex e5) h1 hrl'
end
end Eh

-- EhW9
set_option Elab.async false
set_option linter.all false
set_option maxRecDepth 100000
set_option maxHeartbeats 4000000
namespace Eh
open PySem PySem.Spec PyProof.Rows L2 EhR EhZ Evl
/-! ### rules shown -/
def lineB (k : Nat) (ns : List Int) : List Nat := Vbdbam.spaced (kindAt k :: ns.map fun n => Vbdbam.text (toString n))
theorem joinL_is (S : List Nat) : ∀ l : List (List Nat), TL.joinL S l = Vbdbam.joined S l
  | [] => rfl
  | [_] => rfl
  | a :: b :: r => by
    show a ++ (S ++ TL.joinL S (b :: r)) = a ++ (S ++ Vbdbam.joined S (b :: r))
    rw [joinL_is S (b :: r)]
theorem joined_snoc (S : List Nat) (x : List Nat) : ∀ l : List (List Nat), Vbdbam.joined S (l ++ [x]) = if l = [] then x else Vbdbam.joined S l ++ (S ++ x)
  | [] => rfl
  | [a] => rfl
  | a :: b :: r => by
    have ih := joined_snoc S x (b :: r)
    rw [if_neg (List.cons_ne_nil _ _)] at ih ⊢
    show a ++ (S ++ Vbdbam.joined S (b :: r ++ [x])) = a ++ (S ++ Vbdbam.joined S (b :: r)) ++ (S ++ x)
    rw [ih]
    simp
theorem joined_len (c : Nat) : ∀ l : List (List Nat), (Vbdbam.joined [c] l).length ≤ (l.map List.length).sum + l.length
  | [] => Nat.le_refl _
  | [a] => by
    show a.length ≤ ([a].map List.length).sum + 1
    simp
  | a :: b :: r => by
    have ih := joined_len c (b :: r)
    show (a ++ ([c] ++ Vbdbam.joined [c] (b :: r))).length ≤ ((a :: b :: r).map List.length).sum + (r.length + 1 + 1)
    rw [List.length_append, List.length_append, List.map_cons, List.sum_cons]
    have : (b :: r).length = r.length + 1 := rfl
    have : [c].length = 1 := rfl
    omega
theorem text_is (s : String) : (Str.ofString s).cps.toList = Vbdbam.text s := TL.tl_ofString s
theorem text_len {n : Int} (h : 0 ≤ n ∧ n ≤ 9999) : (Vbdbam.text (toString n)).length ≤ 5 := by
  unfold Vbdbam.text
  rw [List.length_map, String.length_toList]
  exact int_text_length_le10 (k := 4) (by decide) (by omega)
theorem sum_le {l : List Nat} {c : Nat} (h : ∀ x ∈ l, x ≤ c) : l.sum ≤ c * l.length := by
  induction l with
  | nil => exact Nat.le_refl _
  | cons a r ih =>
    rw [List.sum_cons, List.length_cons, Nat.mul_add, Nat.mul_one]
    have := h a List.mem_cons_self
    have := ih fun x hx => h x (List.mem_cons_of_mem _ hx)
    omega
theorem kindAt_len (k : Nat) (hk : k < 9) : (kindAt k).length ≤ 6 ∧ kindAt k ≠ [] := by
  have q : ∀ k, k < 9 → (kindAt k).length ≤ 6 ∧ kindAt k ≠ [] := by decide +kernel
  exact q k hk
def RowOk (ns : List Int) : Prop := ns.length ≤ 12 ∧ ∀ n ∈ ns, 0 ≤ n ∧ n ≤ 9999
theorem lineB_len {k : Nat} {ns : List Int} (hk : k < 9) (h : RowOk ns) : (lineB k ns).length ≤ 100 ∧ lineB k ns ≠ [] := by
  obtain ⟨k1, k2⟩ := kindAt_len k hk
  constructor
  · refine Nat.le_trans (joined_len 32 _) ?_
    rw [List.map_cons, List.sum_cons, List.length_cons, List.length_map, List.map_map]
    have : (ns.map (List.length ∘ fun n => Vbdbam.text (toString n))).sum ≤ 5 * (ns.map (List.length ∘ fun n => Vbdbam.text (toString n))).length := sum_le fun x hx => by
      obtain ⟨n, hn, rfl⟩ := List.mem_map.mp hx
      exact text_len (h.2 n hn)
    rw [List.length_map] at this
    have := h.1
    omega
  · intro z
    have e : lineB k ns = kindAt k ++ (lineB k ns).drop (kindAt k).length := by
      unfold lineB Vbdbam.spaced
      cases ns.map fun n => Vbdbam.text (toString n) with
      | nil => show kindAt k = kindAt k ++ (kindAt k).drop (kindAt k).length; rw [List.drop_length, List.append_nil]
      | cons a r => show kindAt k ++ ([32] ++ Vbdbam.joined [32] (a :: r)) = kindAt k ++ (kindAt k ++ ([32] ++ Vbdbam.joined [32] (a :: r))).drop (kindAt k).length; rw [List.drop_left]
    rw [z] at e
    have := congrArg List.length e
    rw [List.length_append] at this
    cases hc : kindAt k with
    | nil => exact k2 hc
    | cons => rw [hc] at this; simp at this
def shTo (r : MR) (i : Nat) : List Nat := Vbdbam.joined [10] ((r.rows.zipIdx.take i).map fun x => lineB x.2 x.1)
theorem shTo_succ {r : MR} {i : Nat} {ns : List Int} (h : r.rows[i]? = some ns) : shTo r (i + 1) = if i = 0 then lineB i ns else shTo r i ++ ([10] ++ lineB i ns) := by
  unfold shTo
  have hi : i < r.rows.length := (List.getElem?_eq_some_iff.mp h).1
  have e : r.rows.zipIdx[i]? = some (ns, i) := by
    rw [List.getElem?_zipIdx, h]
    simp
  rw [List.take_succ, e, List.map_append]
  show Vbdbam.joined [10] (_ ++ [lineB i ns]) = _
  rw [joined_snoc]
  by_cases c : i = 0
  · subst c
    rw [if_pos rfl, if_pos]
    rfl
  · rw [if_neg c, if_neg]
    intro z
    have := congrArg List.length z
    rw [List.length_map, List.length_take, List.length_zipIdx, List.length_nil] at this
    omega
theorem shTo_all (r : MR) : (shTo r 9).map (fun (n : Nat) => (n : Int)) = shownM r := by
  unfold shTo shownM
  rw [List.take_of_length_le (by rw [List.length_zipIdx]; exact Nat.le_refl 9)]
  rfl
section
variable {K : PySem.W.Frag} {σ : L2.St} {H : Hp} {ta tb te tv : TE} {D : Ends} {tz tu : TS}
theorem ev_join {a : Str} {ys : List Str} (ha : Ev ta σ H (.str a)) (hb : EvL te σ H (ys.map V.str)) (hz : (ys.map (·.length)).sum + ys.length * a.length ≤ 16777216) :
    Ev (tM1 (fun x xs H Q => ∃ a p, ∃ ys : List Str, x = .str a ∧ xs = [.ref p] ∧ (SqL K H p (ys.map V.str) ∨ SqT K H p (ys.map V.str)) ∧ (ys.map (·.length)).sum + ys.length * a.length ≤ 16777216 ∧ Q (.str (Txt.join a ys)) H) ta te) σ H (.str (Txt.join a ys)) := fun H1 e Q q =>
  ha H1 e _ fun H2 e2 => ⟨⟨a, rfl⟩, hb H2 (e.trans e2) _ fun p H3 hp e3 h3 => ⟨a, p, ys, rfl, rfl, .inl (SqL.of h3), hz, q H3 (e2.trans e3)⟩⟩
theorem ev_strI {i : Int} (ha : Ev ta σ H (.int i)) (hz : i.natAbs.log2 < 1920) : Ev (tCB (fun xs H Q => ∃ i, xs = [.int i] ∧ i.natAbs.log2 < 1920 ∧ Q (.str (toString i)) H) (tCons ta tNil)) σ H (.str (Str.ofString (toString i))) := fun H1 e Q q =>
  ha H1 e _ fun H2 e2 => ⟨i, rfl, hz, q H2 e2⟩
theorem s_ext {l : Addr} {xs ys : List V} (hl : H l = some (.lst xs)) (ha : Ev ta σ H (.ref l)) (h : EvL te σ H ys) (hz : xs.length + ys.length ≤ 16777216) (k : ∀ H1, Ex H H1 → D.nx σ (upd H1 l (.lst (xs ++ ys)))) :
    tDrop (tBM K "list" rExtend ta (tCons te tNil)) D σ H := ha H (Ex.refl H) _ fun H1 e1 =>
  ⟨Or.inl ⟨rfl, xs, sq_of (e1 l _ hl)⟩, h H1 e1 _ fun p H2 hp e2 h2 => ⟨l, p, xs, ys, rfl, rfl, e2 l _ (e1 l _ hl), h2, Nat.le_trans hz (by decide), k H2 (e1.trans e2)⟩⟩
theorem q_forZM {a : Addr} {xs ys : List V} {i0 j0 : Nat} (h : EvL te σ H ys) (hx : ∀ H, SqT K H a xs) (hl : xs.length = ys.length) (Pv : Addr → Nat → L2.St → Hp → Prop) (h0 : ∀ p H1, H p = none → Ex H H1 → H1 p = some (.lst ys) → Pv p 0 σ H1) (hq : ∀ p i σ H, Pv p i σ H → SqL K H p ys)
    (hs : ∀ (p : Addr) (i : Nat) (x y : V) (T : Addr) (σ : L2.St) (H : Hp), xs[i]? = some x → ys[i]? = some y → Pv p i σ H → H T = none → tu { D with nx := Pv p (i + 1), ct := Pv p (i + 1), bk := tz D } ((σ.set i0 (some x)).set j0 (some y)) (upd H T (.tup [x, y]))) (hd : ∀ p σ H, Pv p xs.length σ H → tz D σ H) :
    tSeq (tFor (iZipM K (tCons (tC (.ref a)) (tCons te tNil))) (gTup K 2 (gCons (gName i0) (gCons (gName j0) gNil))) tu) tz D σ H :=
  h H (Ex.refl H) _ fun p H1 hp e h1 => ⟨a, p, xs, ys, rfl, hx H1, SqL.of h1, for_zipM (D := { D with nx := tz D }) hl (Pv p) (h0 p H1 hp e h1) (fun i σ H q => ⟨hx H, hq p i σ H q⟩) (fun i x y T σ H hx hy q hT => g_pair (SqT.of upd_same) (hs p i x y T σ H hx hy q hT)) (fun σ H q => hd p σ H q)⟩
end
section
variable {P : Program} {w : World} {K : PySem.W.Frag} {mg : Str → Option Value} {base : Heap} {A : Ads}
def sp_Ru_shown (K : PySem.W.Frag) (A : Ads) : Sp := fun vs H Q _ => ∃ (ru : Addr) (rl : List Addr) (r : MR), vs = [.ref ru] ∧ RuAt A H ru rl r ∧ (∀ ns ∈ r.rows, RowOk ns) ∧ RetL (iV (shownM r)) H Q
theorem ok_Ru_shown (X : Tx K mg A) : Okd P w K mg base CX0 2 A.Ru_shown ["self"] (sp_Ru_shown K A) := by
  obtain ⟨fd_Ru_rows, G_Ru_rows, b_Ru_rows⟩ := ok_Ru_rows (P := P) (w := w) (base := base) X
  obtain ⟨fd, F⟩ := X.fn_Ru_shown
  refine ⟨fd, F.ok sc_Ru_shown (fun vs H Q E h => ?_) (fun cdv A' outer s H vs Q E hr h => ⟨_, (pss_cons (ps_set (i := 1) sc_Ru_shown.nd rfl (Or.inl rfl) (pe_lst pa_nil))
    (pss_cons (ps_for (PassesOwn.never) rfl (pi_zipTL (by rfl) X.b_zip (pa_cons (pe_glob (v := .ref A.ORDER) rfl X.c_ORDER rfl) (pa_cons (pe_meth0 (pv 0) X.cl_Ru X.m_Ru_rows G_Ru_rows (hr.mono (by decide)) b_Ru_rows .nil pass0) pa_nil))) (pg_tup rfl (pgs_cons (pg_name (i := 2) sc_Ru_shown.nd rfl (Or.inl rfl)) (pgs_cons (pg_name (i := 3) sc_Ru_shown.nd rfl (Or.inl rfl)) pgs_nil)))
      (pss_cons (ps_if (pt_cmpR (op_neNil (hu64 hr)) (pv 1) (pe_lst pa_nil) (nomark _))
        (pss_one (ps_expr (pe_bm PySem.F.plainAttrs_list PySem.F.slot_list_append PySem.F.type_list_append mt_append (pv 1) (pa_cons (pe_gi rfl X.c_ROW_END) pa_nil))))
        pss_nil)
      (pss_one (ps_expr (pe_bm PySem.F.plainAttrs_list PySem.F.slot_list_extend PySem.F.type_list_extend mt_extend (pv 1) (pa_cons (pe_lc (own := [("sign", 4)]) (g := gName 4) rfl sc_Ru_shown.nd (pi_str (pe_join pe_str (pe_op op_cat (pe_lst (pa_cons (pv 2) pa_nil)) (pe_lc (own := [("number", 5)]) (g := gName 5) rfl sc_Ru_shown.nd (pi_list (pv 3)) (blkOk_by (N := ["self", "found", "word", "numbers", "sign", "number"]) (sc := defScope s_Ru_shown) (own := [("number", 5)]) (by decide +kernel)) (fun _ _ _ _ _ => pg_name (i := 5) sc_Ru_shown.nd rfl (.inl rfl)) (fun _ _ _ _ _ => pts_nil) (fun _ _ _ _ _ => (pe_callTy call_str_int (by rfl) X.b_str (by decide +kernel) (pa_cons (pv 5) pa_nil))))))) (blkOk_by (N := ["self", "found", "word", "numbers", "sign", "number"]) (sc := defScope s_Ru_shown) (own := [("sign", 4)]) (by decide +kernel)) (fun _ _ _ _ _ => pg_name (i := 4) sc_Ru_shown.nd rfl (.inl rfl)) (fun _ _ _ _ _ => pts_nil) (fun _ _ _ _ _ => (pe_callB call_ord (by rfl) X.b_ord (by decide +kernel) (pa_cons (pv 4) pa_nil)))) pa_nil))))))
    (pss_one (ps_ret (pv 1))))), ?_⟩), F.binds fun _ _ _ _ _ _ us hl => match us, hl with | [_], _ => rfl⟩
  · obtain ⟨_, _, _, rfl, _⟩ := h
    rfl
  · obtain ⟨ru, rl, r, rfl, h, hb, k⟩ := h
    rw [← shTo_all, ← bys_iV] at k
    refine q_asgL (el_lst ea_nil (by decide)) fun q H1 hq e1 l1 => ?_
    have h1 := h.ex e1
    refine q_forZM (xs := (List.range 9).map fun k => V.str (kindS k)) (ys := refs rl) (el_meth (ev_var rfl) h1.ob (no_Ru_rows _) ea_nil fun H2 e2 Q' q' E' => ⟨ru, rl, r, rfl, h1.ex e2, q'⟩) (fun H => orders X H) (by unfold refs; rw [List.length_map, List.length_map, h.len]; rfl)
      (fun p i σ' H' => (∃ v u, σ' = [some (.ref ru), some (.ref q), v, u, none, none]) ∧ Ex H H' ∧ H' p = some (.lst (refs rl)) ∧ p ≠ q ∧ H' q = some (.lst (bys (shTo r i))) ∧ (shTo r i).length ≤ 101 * i ∧ (shTo r i = [] ↔ i = 0))
      (fun p H2 hp e2 l2 => ⟨⟨_, _, rfl⟩, e1.trans e2, l2, (fun z => by rw [z, l1] at hp; cases hp), e2 _ _ l1, Nat.le_refl _, fun _ => rfl, fun _ => rfl⟩) (fun p i σ' H' z => SqL.of z.2.2.1) (fun p i x y T σ' H' hx hy z hT => ?_) fun p σ' H' z => ?_
    · obtain ⟨⟨v, u, rfl⟩, e, lp, npq, lq, hlen, hemp⟩ := z
      have hyr : (rl.map V.ref)[i]? = some y := hy
      obtain ⟨b, hbb, rfl⟩ : ∃ b, rl[i]? = some b ∧ y = V.ref b := by
        rw [List.getElem?_map] at hyr
        cases q : rl[i]? with
        | none => rw [q] at hyr; cases hyr
        | some b => rw [q] at hyr; exact ⟨b, rfl, (Option.some.inj hyr).symm⟩
      have hi : i < 9 := by rw [← h.len]; exact (List.getElem?_eq_some_iff.mp hbb).1
      obtain ⟨ns, hns⟩ := get_len (k := r.rows) (by rw [h.len, rows_len]) hbb
      have hrow := h.rows i b ns hbb hns
      have hok := hb ns (List.mem_of_getElem? hns)
      have ex : x = V.str (kindS i) := by
        rw [List.getElem?_map, List.getElem?_range hi] at hx
        exact (Option.some.inj hx).symm
      subst ex
      have eT := Ex.new (o := .tup [.str (kindS i), .ref b]) hT
      have lqT := eT _ _ lq
      obtain ⟨ll1, ll2⟩ := lineB_len hi hok
      have hsucc := shTo_succ hns
      have qru : q ≠ ru := fun z => by
        obtain ⟨d0, o0⟩ := h.ob
        rw [z, o0] at hq; cases hq
      -- the line as a new list
      have line : ∀ H3, Ex H H3 → EvL (tLc (iStr (tM1 (fun x xs H Q => ∃ a p, ∃ ys : List Str, x = .str a ∧ xs = [.ref p] ∧ (SqL K H p (ys.map V.str) ∨ SqT K H p (ys.map V.str)) ∧ (ys.map (·.length)).sum + ys.length * a.length ≤ 16777216 ∧ Q (.str (Txt.join a ys)) H) (tC (.str " ")) (tOp rCat (tLst (tCons (tVar 2) tNil)) (tLc (iList K (tVar 3)) (gName 5) tYes (tCB (fun xs H Q => ∃ i, xs = [.int i] ∧ i.natAbs.log2 < 1920 ∧ Q (.str (toString i)) H) (tCons (tVar 5) tNil)) [5])))) (gName 4) tYes (tCB (fun xs H Q => ∃ x, xs = [.str x] ∧ x.length = 1 ∧ Q (.int (x.cps.getD 0 0 : Nat)) H) (tCons (tVar 4) tNil)) [4])
          [some (.ref ru), some (.ref q), some (.str (kindS i)), some (.ref b), none, none] H3 (bys (lineB i ns)) := fun H3 e3 => by
        have parts : (kindS i :: ns.map fun n => Str.ofString (toString n)).map V.str = [V.str (kindS i)] ++ ns.map fun n => V.str (Str.ofString (toString n)) := by
          rw [List.map_cons, List.map_map]
          rfl
        have evs : EvL (tLc (iList K (tVar 3)) (gName 5) tYes (tCB (fun xs H Q => ∃ i, xs = [.int i] ∧ i.natAbs.log2 < 1920 ∧ Q (.str (toString i)) H) (tCons (tVar 5) tNil)) [5]) [some (.ref ru), some (.ref q), some (.str (kindS i)), some (.ref b), none, none] H3 (ns.map fun n => V.str (Str.ofString (toString n))) := by
          have q0 := el_lcM (K := K) (tl := tVar 3) (t := tYes) (te := tCB (fun xs H Q => ∃ i, xs = [.int i] ∧ i.natAbs.log2 < 1920 ∧ Q (.str (toString i)) H) (tCons (tVar 5) tNil)) (σ := [some (.ref ru), some (.ref q), some (.str (kindS i)), some (.ref b), none, none]) (H := H3) (j := 5) (vs := [5]) (a := b) (l := ns) (F := V.int) 0 (fun _ => true) (fun n => V.str (Str.ofString (toString n))) (ev_var rfl) (SqL.of (e3 _ _ hrow)) (by have := hok.1; omega) (fun _ => rfl) (fun n j H4 e4 hn => et_yes)
            (fun n j H4 e4 hn _ => ev_strI (ev_var rfl) (by
              have := hok.2 n (List.mem_of_getElem? hn)
              by_cases c : n.natAbs = 0
              · rw [c]; decide
              · refine (Nat.log2_lt c).mpr (Nat.lt_of_lt_of_le (show n.natAbs < 2 ^ 14 by omega) (Nat.pow_le_pow_right (by decide) (by decide)))))
          rw [filter_all] at q0
          exact q0
        have lens : ((kindS i :: ns.map fun n => Str.ofString (toString n)).map (·.length)).sum ≤ 66 := by
          rw [List.map_cons, List.sum_cons, List.map_map]
          have k1 := kindS_size i hi
          have : (ns.map ((·.length) ∘ fun n => Str.ofString (toString n))).sum ≤ 5 * (ns.map ((·.length) ∘ fun n => Str.ofString (toString n))).length := sum_le fun x hx => by
            obtain ⟨n, hn, rfl⟩ := List.mem_map.mp hx
            have := text_len (hok.2 n hn)
            rw [← text_is, Array.length_toList] at this
            exact this
          rw [List.length_map] at this
          have := hok.1
          show (kindS i).cps.size + _ ≤ 66
          omega
        have evj := ev_join (K := K) (te := tOp rCat (tLst (tCons (tVar 2) tNil)) (tLc (iList K (tVar 3)) (gName 5) tYes (tCB (fun xs H Q => ∃ i, xs = [.int i] ∧ i.natAbs.log2 < 1920 ∧ Q (.str (toString i)) H) (tCons (tVar 5) tNil)) [5])) (σ := [some (.ref ru), some (.ref q), some (.str (kindS i)), some (.ref b), none, none]) (H := H3) (ta := tC (.str " ")) (a := " ") (ys := kindS i :: ns.map fun n => Str.ofString (toString n)) ev_c (by
          rw [parts]
          exact el_cat (x_of_L (el_lst (ea_cons (ev_var rfl) ea_nil) (by show 1 ≤ 100000; decide))) (x_of_L evs) (by rw [List.length_map]; show 1 + ns.length ≤ 10000000; have := hok.1; omega)) (by
          have : (" " : Str).length = 1 := by decide +kernel
          rw [this, List.length_cons, List.length_map]
          have := hok.1
          omega)
        have tlj : (Txt.join " " (kindS i :: ns.map fun n => Str.ofString (toString n))).cps.toList = lineB i ns := by
          have e0 := congrArg TL.tl (TL.join_eq " " (kindS i :: ns.map fun n => Str.ofString (toString n)))
          rw [TL.tl_join, joinL_is] at e0
          refine e0.trans ?_
          unfold lineB Vbdbam.spaced
          have e1 : TL.tl (" " : Str) = [32] := by decide +kernel
          rw [e1, List.map_cons, List.map_map]
          have e2 : TL.tl (kindS i) = kindAt i := kindS_cps i hi
          rw [e2]
          have e3 : (TL.tl ∘ fun n : Int => Str.ofString (toString n)) = fun n => Vbdbam.text (toString n) := funext fun n => TL.tl_ofString _
          rw [e3]
        have evf := el_lcS (σ := [some (.ref ru), some (.ref q), some (.str (kindS i)), some (.ref b), none, none]) (j := 4) (vs := [4]) (te := tCB (fun xs H Q => ∃ x, xs = [.str x] ∧ x.length = 1 ∧ Q (.int (x.cps.getD 0 0 : Nat)) H) (tCons (tVar 4) tNil)) evj (by rw [← Array.length_toList, tlj]; omega) (fun _ => rfl) (fun c H4 e4 => ev_ord (ev_var rfl))
        rw [tlj] at evf
        exact evf
      by_cases c : i = 0
      · have hs0 : shTo r i = [] := hemp.mpr c
        refine q_when (b := false) (et_test (ev_is (ev_nil (ev_var rfl) (SqL.of lqT)) (by rw [hs0]; rfl))) (fun z => by cases z) fun _ H3 e3 => ?_
        have f3 := (e.trans eT).trans e3
        refine s_ext (e3 _ _ lqT) (ev_var rfl) (line H3 f3) (by rw [bys_len, bys_len, hs0]; show 0 + _ ≤ _; omega) fun H4 e4 => ?_
        rw [hsucc, if_pos c]
        refine ⟨⟨_, _, rfl⟩, (f3.trans e4).mut hq, ?_, npq, ?_, by omega, fun z => absurd z ll2, fun z => by omega⟩
        · rw [upd_ne npq]; exact e4 _ _ (e3 _ _ (eT _ _ lp))
        · rw [upd_same, hs0]; rfl
      · have hs0 : shTo r i ≠ [] := fun z => c (hemp.mp z)
        refine q_when (b := true) (et_test (ev_is (ev_nil (ev_var rfl) (SqL.of lqT)) (by
          rw [bys_empty]
          cases hh : shTo r i with
          | nil => exact absurd hh hs0
          | cons => rfl))) (fun _ H3 e3 => ?_) fun z => by cases z
        refine s_app (e3 _ _ lqT) (ev_var rfl) ev_c (by rw [bys_len]; omega) fun H4 e4 => ?_
        have f4 : Ex H (upd H4 q (.lst (bys (shTo r i) ++ [.int 10]))) := (((e.trans eT).trans e3).trans e4).mut hq
        refine s_ext upd_same (ev_var rfl) (line _ f4) (by rw [List.length_append, bys_len, bys_len]; show _ + 1 + _ ≤ _; omega) fun H5 e5 => ?_
        rw [hsucc, if_neg c]
        refine ⟨⟨_, _, rfl⟩, (f4.trans e5).mut hq, ?_, npq, ?_, ?_, fun z => ?_, fun z => by omega⟩
        · rw [upd_ne npq]
          refine e5 _ _ ?_
          rw [upd_ne npq]
          exact e4 _ _ (e3 _ _ (eT _ _ lp))
        · rw [upd_same]
          unfold bys
          rw [List.map_append, List.map_append, List.append_assoc]
          rfl
        · rw [List.length_append, List.length_append]
          show _ + (1 + _) ≤ _
          omega
        · have := congrArg List.length z
          rw [List.length_append, List.length_append] at this
          simp at this
    · obtain ⟨⟨v, u, rfl⟩, e, lp, npq, lq, hlen, hemp⟩ := z
      exact s_ret (ev_var rfl) fun H3 e3 => k q H3 hq (e.trans e3) (e3 _ _ lq)
end
end Eh

-- EhW10
set_option Elab.async false
set_option linter.all false
set_option maxRecDepth 100000
set_option maxHeartbeats 4000000
namespace Eh
open PySem PySem.Spec PyProof.Rows L2 EhR EhZ Evl
/-! ### what the desk answers -/
def NewP (H : Hp) (F : List Addr) (p : Addr) : Prop := ∀ b o, H b = some o → b ∉ F → b ≠ p
def DeskQ (A : Ads) (E : XK) (H : Hp) (d : Addr) (L : Lay) (Q : VK) (r : Re) : Prop := match r with
  | .error e => RefE A E H e
  | .ok x => ∀ H' L' p, DAt A H' d L' x.1 → Fr H H' (dfoot d L) (dfoot d L') → NewP H (dfoot d L) p → H' p = some (.lst (iV x.2)) → Q (.ref p) H'
section
variable {A : Ads} {E : XK} {H H1 H2 : Hp} {d : Addr} {L L' : Lay} {Q : VK} {r : Re} {m m' : M} {ans : List Int}
theorem NewP.ex {F : List Addr} {p : Addr} (h : NewP H1 F p) (e : Ex H H1) : NewP H F p := fun b o hb => h b o (e b o hb)
theorem DeskQ.ex (h : DeskQ A E H d L Q r) (e : Ex H H1) : DeskQ A E H1 d L Q r := by
  cases r with
  | error x => exact RefE.ex h e
  | ok x => exact fun H' L' p h1 h2 h3 h4 => h H' L' p h1 (Fr.of_ex e h2) (h3.ex e) h4
theorem DeskQ.fin (h : DeskQ A E H d L Q (.ok (m', ans))) (f : Fr H H1 (dfoot d L) (dfoot d L')) (c : DAt A H1 d L' m') : RetL (iV ans) H1 Q := fun p H2 hp e h2 =>
  h H2 L' p (c.ex e) (f.ex e) (fun b o hb nb z => by
    have := f.keep b o hb nb
    rw [z, hp] at this
    cases this) h2
theorem DeskQ.re {e : Int} (h : DeskQ A E H d L Q (.error e)) : RefE A E H e := h
theorem dq_ref {b : Bool} {e : Int} {k : Re} (h : DeskQ A E H d L Q (refuse b e k)) : (b = true → RefE A E H e) ∧ (b = false → DeskQ A E H d L Q k) := by
  unfold refuse at h
  refine ⟨fun hb => ?_, fun hb => ?_⟩
  · rw [if_pos hb] at h; exact h
  · rw [if_neg (by rw [hb]; decide)] at h; exact h
theorem dq_onS {n : Int} {f : Nat → MS → Re} (h : DeskQ A E H d L Q (onS m n f)) : (m.find n = none → RefE A E H (-5)) ∧ ∀ i, m.find n = some i → DeskQ A E H d L Q (f i (m.sch i)) := by
  unfold onS at h
  refine ⟨fun hb => ?_, fun i hb => ?_⟩
  · rw [hb] at h; exact h
  · rw [hb] at h; exact h
theorem dq_onO {n : Int} {f : MO → Re} (h : DeskQ A E H d L Q (onO m n f)) : (m.findO n = none → RefE A E H (-5)) ∧ ∀ i, m.findO n = some i → DeskQ A E H d L Q (f (m.off i)) := by
  unfold onO at h
  refine ⟨fun hb => ?_, fun i hb => ?_⟩
  · rw [hb] at h; exact h
  · rw [hb] at h; exact h
theorem find_lt {n : Int} {i : Nat} (h : m.find n = some i) : i < m.schools.length ∧ (m.sch i).number = n := by
  unfold M.find at h
  rw [List.findIdx?_eq_some_iff_getElem] at h
  obtain ⟨hi, e, _⟩ := h
  refine ⟨hi, ?_⟩
  unfold M.sch
  rw [List.getD_eq_getElem?_getD, List.getElem?_eq_getElem hi]
  exact eq_of_beq e
theorem findO_lt {n : Int} {i : Nat} (h : m.findO n = some i) : i < m.offers.length ∧ (m.off i).number = n := by
  unfold M.findO at h
  rw [List.findIdx?_eq_some_iff_getElem] at h
  obtain ⟨hi, e, _⟩ := h
  refine ⟨hi, ?_⟩
  unfold M.off
  rw [List.getD_eq_getElem?_getD, List.getElem?_eq_getElem hi]
  exact eq_of_beq e
end
/-- a school written -/
def M.putS (m : M) (i : Nat) (s : MS) : M := { m with schools := m.schools.set i s }
theorem putS_self {m : M} {i : Nat} (h : i < m.schools.length) : m.putS i (m.sch i) = m := by
  unfold M.putS M.sch
  have : m.schools.set i (m.schools.getD i MS.zero) = m.schools := by
    rw [List.getD_eq_getElem?_getD, List.getElem?_eq_getElem h]
    exact List.set_getElem_self h
  rw [this]
theorem putS_putS {m : M} {i : Nat} {s t : MS} : (m.putS i s).putS i t = m.putS i t := by
  unfold M.putS
  show ({ m with schools := (m.schools.set i s).set i t } : M) = _
  rw [List.set_set]
section
variable {K : PySem.W.Frag} {mg : Str → Option Value} {A : Ads} {σ : L2.St} {H H0 : Hp} {ta te tv t0 t1 : TE} {D : Ends} {tz : TS} {L : Lay} {m m' : M} {f : Str} {v : V} {x j : Int} {a d : Addr} {s s' : MS} {i : Nat} {E : XK} {Q : VK}
/-- the desk with a school in hand -/
structure Hand (A : Ads) (H0 H : Hp) (d : Addr) (L0 L : Lay) (m : M) (i : Nat) (a : Addr) (s : MS) : Prop where
  c : DAt A H d L (m.putS i s)
  hi : L.ss[i]? = some a
  hs : At H a A.Sc (msF s)
  f : Fr H0 H (dfoot d L0) (dfoot d L)
theorem Hand.ex {H1 : Hp} {L0 : Lay} (h : Hand A H0 H d L0 L m i a s) (e : Ex H H1) : Hand A H0 H1 d L0 L m i a s := ⟨h.c.ex e, h.hi, h.hs.ex e, h.f.ex e⟩
theorem Hand.of (c : DAt A H d L m) (hi : L.ss[i]? = some a) (hl : i < m.schools.length) : Hand A H H d L L m i a (m.sch i) := by
  refine ⟨by rw [putS_self hl]; exact c, hi, ?_, Fr.refl _ _⟩
  obtain ⟨b, hb, hs⟩ := c.st.sch_get hl
  rw [hi] at hb
  cases hb
  exact hs
theorem h_scA {L0 : Lay} (X : Tx K mg A) (h : Hand A H0 H d L0 L m i a s) (ha : Ev ta σ H (.ref a)) (hv : Ev tv σ H (.int j)) (n : NoAttr K A.Sc f) (l : (msF s).lookup f = some (.int x)) (pt : putF f (.int (x + j)) (msF s) = msF s')
    (k : ∀ H1, Hand A H0 H1 d L0 L m i a s' → D.nx σ H1) : sFldAug K ta tv L2.rAdd f D σ H :=
  w_scA X h.c.st h.hi h.hs ha hv n l pt fun H1 h1 hs1 f1 => k H1 ⟨by
    have c1 := h.c.of f1 h1 rfl
    have e : ({ m.putS i s with schools := (m.putS i s).schools.set i s' } : M) = m.putS i s' := putS_putS
    rw [e] at c1
    exact c1, h.hi, hs1, h.f.trans f1.desk⟩
theorem h_scS {L0 : Lay} (X : Tx K mg A) (h : Hand A H0 H d L0 L m i a s) (ha : Ev ta σ H (.ref a)) (hv : Ev tv σ H (.int j)) (n : NoAttr K A.Sc f) (l : (msF s).lookup f = some (.int x)) (pt : putF f (.int (x - j)) (msF s) = msF s')
    (k : ∀ H1, Hand A H0 H1 d L0 L m i a s' → D.nx σ H1) : sFldAug K ta tv L2.rSub f D σ H :=
  w_scS X h.c.st h.hi h.hs ha hv n l pt fun H1 h1 hs1 f1 => k H1 ⟨by
    have c1 := h.c.of f1 h1 rfl
    have e : ({ m.putS i s with schools := (m.putS i s).schools.set i s' } : M) = m.putS i s' := putS_putS
    rw [e] at c1
    exact c1, h.hi, hs1, h.f.trans f1.desk⟩
theorem h_sc {L0 : Lay} (X : Tx K mg A) (h : Hand A H0 H d L0 L m i a s) (hv : Ev tv σ H v) (ha : Ev ta σ H (.ref a)) (n : NoAttr K A.Sc f) (pt : putF f v (msF s) = msF s')
    (k : ∀ H1, Hand A H0 H1 d L0 L m i a s' → D.nx σ H1) : sFld K ta tv f D σ H :=
  w_sc X h.c.st h.hi h.hs hv ha n pt fun H1 h1 hs1 f1 => k H1 ⟨by
    have c1 := h.c.of f1 h1 rfl
    have e : ({ m.putS i s with schools := (m.putS i s).schools.set i s' } : M) = m.putS i s' := putS_putS
    rw [e] at c1
    exact c1, h.hi, hs1, h.f.trans f1.desk⟩
/-- entries are counted -/
theorem h_ent {L0 : Lay} (X : Tx K mg A) (h : Hand A H0 H d L0 L m i a s) (ha : Ev ta σ H (.ref L.st)) (hv : Ev tv σ H (.int j))
    (k : ∀ H1, Hand A H0 H1 d L0 L { m with entries := m.entries + j } i a s → D.nx σ H1) : sFldAug K ta tv L2.rAdd "entries" D σ H :=
  w_stA (m' := { m.putS i s with entries := m.entries + j }) X h.c.st ha hv X.na_St_entries (lk_St_entries _ _) (pt_St_entries _ _ _) rfl rfl rfl fun H1 h1 f1 => k H1 ⟨h.c.of f1 h1 rfl, h.hi, by
    have hl : i < (m.putS i s).schools.length := by
      have := (List.getElem?_eq_some_iff.mp h.hi).1
      have := h.c.st.bd.ss.len
      omega
    obtain ⟨b, hb, q⟩ := h1.sch_get (i := i) hl
    rw [h.hi] at hb
    cases hb
    have e : ({ m.putS i s with entries := m.entries + j } : M).sch i = s := by
      unfold M.sch
      show (m.schools.set i s).getD i MS.zero = s
      have hl' : i < m.schools.length := by
        have e2 : (m.putS i s).schools.length = m.schools.length := List.length_set
        omega
      rw [List.getD_eq_getElem?_getD, List.getElem?_set_self hl']
      rfl
    rw [e] at q
    exact q, h.f.trans f1.desk⟩
theorem Hand.lt {L0 : Lay} (h : Hand A H0 H d L0 L m i a s) : i < m.schools.length := by
  have e1 := (List.getElem?_eq_some_iff.mp h.hi).1
  have e2 := h.c.st.bd.ss.len
  have e3 : (m.putS i s).schools.length = m.schools.length := List.length_set
  omega
end
section
variable {P : Program} {w : World} {K : PySem.W.Frag} {mg : Str → Option Value} {base : Heap} {A : Ads}
/-! ### refusals -/
def sp_f_refuse_if (K : PySem.W.Frag) (A : Ads) : Sp := fun vs H Q E => ∃ (b : Bool) (e : Int), vs = [.bl b, .int e] ∧ (b = true → RefE A E H e) ∧ (b = false → RetV .non H Q)
theorem ok_f_refuse_if (X : Tx K mg A) : Okd P w K mg base (L2.CX P w) 3 A.f_refuse_if ["truth", "why"] (sp_f_refuse_if K A) := by
  obtain ⟨fd_Re_init, G_Re_init, b_Re_init⟩ := ok_Re_init (P := P) (w := w) (base := base) X
  obtain ⟨fd, F⟩ := X.fn_f_refuse_if
  refine ⟨fd, F.okX sc_f_refuse_if (fun vs H Q E h => ?_) (fun cdv A' outer s H vs Q E hr h => ⟨_, (pss_one (ps_if (pt_val (pv 0))
      (pss_one (ps_raise rfl (takes_of rfl rfl rfl rfl) (pmk_oex X.ox_Re X.i_Re X.ti_Re G_Re_init (hr.mono (by decide)) b_Re_init .nil pass0 rfl X.g_Re (by exact (pa_cons (pv 1) pa_nil)))))
      pss_nil)), ?_⟩), F.binds fun _ _ _ _ _ _ us hl => match us, hl with | [_, _], _ => rfl⟩
  · obtain ⟨_, _, rfl, _⟩ := h
    rfl
  · obtain ⟨b, e, rfl, h1, h2⟩ := h
    refine s_when (et_B (ev_var rfl)) (fun hb H1 e1 => raise_Re (ev_var rfl) ((h1 hb).ex e1)) (fun hb H1 e1 => h2 hb H1 e1)
theorem q_ref {σ : L2.St} {H : Hp} {te tn : TE} {D : Ends} {tz : TS} {b : Bool} {e : Int} {k : Re} {E : XK} {d : Addr} {L : Lay} {m : M} {Q : VK} (c : DAt A H d L m) (dq : DeskQ A E H d L Q (refuse b e k)) (h1 : Ev te σ H (.bl b)) (h2 : Ev tn σ H (.int e)) (kk : b = false → ∀ H1, Ex H H1 → DAt A H1 d L m → DeskQ A E H1 d L Q k → tz D σ H1) :
    tSeq (tDrop (tCall (sp_f_refuse_if K A) [] E (tCons te (tCons tn tNil)))) tz D σ H :=
  q_call (ea_cons h1 (ea_cons h2 ea_nil)) fun H1 e1 => ⟨b, e, rfl, fun hb => ((dq_ref dq).1 hb).ex e1, fun hb H2 e2 => kk hb H2 (e1.trans e2) (c.ex (e1.trans e2)) (((dq_ref dq).2 hb).ex (e1.trans e2))⟩
def sp_De_look_up (K : PySem.W.Frag) (A : Ads) : Sp := fun vs H Q E => ∃ (d : Addr) (L : Lay) (m : M) (n : Int), vs = [.ref d, .int n] ∧ DAt A H d L m ∧ (m.find n = none → RefE A E H (-5)) ∧ (∀ i, m.find n = some i → RetV (.ref (L.ss.getD i 0)) H Q)
theorem ok_De_look_up (X : Tx K mg A) : Okd P w K mg base (L2.CX P w) 4 A.De_look_up ["self", "number"] (sp_De_look_up K A) := by
  obtain ⟨fd_f_refuse_if, G_f_refuse_if, b_f_refuse_if⟩ := ok_f_refuse_if (P := P) (w := w) (base := base) X
  obtain ⟨fd_St_school_at, G_St_school_at, b_St_school_at⟩ := ok_St_school_at (P := P) (w := w) (base := base) X
  obtain ⟨fd, F⟩ := X.fn_De_look_up
  refine ⟨fd, F.okX sc_De_look_up (fun vs H Q E h => ?_) (fun cdv A' outer s H vs Q E hr h => ⟨_, (pss_cons (ps_set (i := 2) sc_De_look_up.nd rfl (Or.inl rfl) (pe_meth (pe_fld (pv 0) rfl) X.cl_St X.m_St_school_at G_St_school_at (hr.mono (by decide)) b_St_school_at .nil pass0 (pa_cons (pv 1) pa_nil)))
    (pss_cons (ps_expr (pe_call G_f_refuse_if (hr.mono (by decide)) rfl X.g_f_refuse_if X.k_f_refuse_if b_f_refuse_if .nil passE (pa_cons (pe_cmpR op_isN (pv 2) pe_non (nomark _)) (pa_cons (pe_un un_neg pe_int) pa_nil))))
    (pss_one (ps_ret (pv 2))))), ?_⟩), F.binds fun _ _ _ _ _ _ us hl => match us, hl with | [_, _], _ => rfl⟩
  · obtain ⟨_, _, _, _, rfl, _⟩ := h
    rfl
  · obtain ⟨d, L, m, n, rfl, c, h1, h2⟩ := h
    refine q_asg (ev_meth (ev_De_state X c.ob (ev_var rfl)) c.st.st (no_St_school_at _ _) (ea_cons (ev_var rfl) ea_nil) fun H1 e1 Q' q E' => ⟨L, m, n, rfl, c.st.ex e1, q⟩) fun H1 e1 => ?_
    cases hf : m.find n with
    | none =>
      refine q_call (ea_cons (ev_isN (ev_var rfl)) (ea_cons (ev_neg ev_c) ea_nil)) fun H2 e2 => ⟨true, -5, rfl, fun _ => ((h1 hf).ex e1).ex e2, fun z => by cases z⟩
    | some i =>
      refine q_call (ea_cons (ev_isN (ev_var rfl)) (ea_cons (ev_neg ev_c) ea_nil)) fun H2 e2 => ⟨false, -5, rfl, (fun z => by cases z), fun _ H3 e3 => s_ret (ev_var rfl) fun H4 e4 => h2 i hf H4 (((e1.trans e2).trans e3).trans e4)⟩
def sp_De_offer (K : PySem.W.Frag) (A : Ads) : Sp := fun vs H Q E => ∃ (d : Addr) (L : Lay) (m : M) (n : Int), vs = [.ref d, .int n] ∧ DAt A H d L m ∧ (m.findO n = none → RefE A E H (-5)) ∧ (∀ i, m.findO n = some i → RetV (.ref (L.os.getD i 0)) H Q)
theorem ok_De_offer (X : Tx K mg A) : Okd P w K mg base (L2.CX P w) 4 A.De_offer ["self", "number"] (sp_De_offer K A) := by
  obtain ⟨fd_f_refuse_if, G_f_refuse_if, b_f_refuse_if⟩ := ok_f_refuse_if (P := P) (w := w) (base := base) X
  obtain ⟨fd_St_offer_at, G_St_offer_at, b_St_offer_at⟩ := ok_St_offer_at (P := P) (w := w) (base := base) X
  obtain ⟨fd, F⟩ := X.fn_De_offer
  refine ⟨fd, F.okX sc_De_offer (fun vs H Q E h => ?_) (fun cdv A' outer s H vs Q E hr h => ⟨_, (pss_cons (ps_set (i := 2) sc_De_offer.nd rfl (Or.inl rfl) (pe_meth (pe_fld (pv 0) rfl) X.cl_St X.m_St_offer_at G_St_offer_at (hr.mono (by decide)) b_St_offer_at .nil pass0 (pa_cons (pv 1) pa_nil)))
    (pss_cons (ps_expr (pe_call G_f_refuse_if (hr.mono (by decide)) rfl X.g_f_refuse_if X.k_f_refuse_if b_f_refuse_if .nil passE (pa_cons (pe_cmpR op_isN (pv 2) pe_non (nomark _)) (pa_cons (pe_un un_neg pe_int) pa_nil))))
    (pss_one (ps_ret (pv 2))))), ?_⟩), F.binds fun _ _ _ _ _ _ us hl => match us, hl with | [_, _], _ => rfl⟩
  · obtain ⟨_, _, _, _, rfl, _⟩ := h
    rfl
  · obtain ⟨d, L, m, n, rfl, c, h1, h2⟩ := h
    refine q_asg (ev_meth (ev_De_state X c.ob (ev_var rfl)) c.st.st (no_St_offer_at _ _) (ea_cons (ev_var rfl) ea_nil) fun H1 e1 Q' q E' => ⟨L, m, n, rfl, c.st.ex e1, q⟩) fun H1 e1 => ?_
    cases hf : m.findO n with
    | none =>
      refine q_call (ea_cons (ev_isN (ev_var rfl)) (ea_cons (ev_neg ev_c) ea_nil)) fun H2 e2 => ⟨true, -5, rfl, fun _ => ((h1 hf).ex e1).ex e2, fun z => by cases z⟩
    | some i =>
      refine q_call (ea_cons (ev_isN (ev_var rfl)) (ea_cons (ev_neg ev_c) ea_nil)) fun H2 e2 => ⟨false, -5, rfl, (fun z => by cases z), fun _ H3 e3 => s_ret (ev_var rfl) fun H4 e4 => h2 i hf H4 (((e1.trans e2).trans e3).trans e4)⟩
def sp_De_look_closed (K : PySem.W.Frag) (A : Ads) : Sp := fun vs H Q E => ∃ (d : Addr) (L : Lay) (m : M), vs = [.ref d] ∧ DAt A H d L m ∧ (m.closed = true → RefE A E H (-4)) ∧ (m.closed = false → RetV .non H Q)
theorem ok_De_look_closed (X : Tx K mg A) : Okd P w K mg base (L2.CX P w) 4 A.De_look_closed ["self"] (sp_De_look_closed K A) := by
  obtain ⟨fd_f_refuse_if, G_f_refuse_if, b_f_refuse_if⟩ := ok_f_refuse_if (P := P) (w := w) (base := base) X
  obtain ⟨fd, F⟩ := X.fn_De_look_closed
  refine ⟨fd, F.okX sc_De_look_closed (fun vs H Q E h => ?_) (fun cdv A' outer s H vs Q E hr h => ⟨_, (pss_one (ps_expr (pe_call G_f_refuse_if (hr.mono (by decide)) rfl X.g_f_refuse_if X.k_f_refuse_if b_f_refuse_if .nil passE (pa_cons (pe_fld (pe_fld (pv 0) rfl) rfl) (pa_cons (pe_un un_neg pe_int) pa_nil))))), ?_⟩), F.binds fun _ _ _ _ _ _ us hl => match us, hl with | [_], _ => rfl⟩
  · obtain ⟨_, _, _, rfl, _⟩ := h
    rfl
  · obtain ⟨d, L, m, rfl, c, h1, h2⟩ := h
    exact q_call (ea_cons (ev_St_is_closed X c.st.st (ev_De_state X c.ob (ev_var rfl))) (ea_cons (ev_neg ev_c) ea_nil)) fun H2 e2 => ⟨m.closed, -4, rfl, fun hb => (h1 hb).ex e2, fun hb H3 e3 => h2 hb H3 (e2.trans e3)⟩
def sp_De_look_entries (K : PySem.W.Frag) (A : Ads) : Sp := fun vs H Q E => ∃ (d : Addr) (L : Lay) (m : M) (x : Int), vs = [.ref d, .int x] ∧ DAt A H d L m ∧ (decide (m.entries + x > 400) = true → RefE A E H (-9)) ∧ (decide (m.entries + x > 400) = false → RetV .non H Q)
theorem ok_De_look_entries (X : Tx K mg A) : Okd P w K mg base (L2.CX P w) 4 A.De_look_entries ["self", "more"] (sp_De_look_entries K A) := by
  obtain ⟨fd_f_refuse_if, G_f_refuse_if, b_f_refuse_if⟩ := ok_f_refuse_if (P := P) (w := w) (base := base) X
  obtain ⟨fd, F⟩ := X.fn_De_look_entries
  refine ⟨fd, F.okX sc_De_look_entries (fun vs H Q E h => ?_) (fun cdv A' outer s H vs Q E hr h => ⟨_, (pss_one (ps_expr (pe_call G_f_refuse_if (hr.mono (by decide)) rfl X.g_f_refuse_if X.k_f_refuse_if b_f_refuse_if .nil passE (pa_cons (pe_cmpR op_gt (pe_op op_add (pe_fld (pe_fld (pv 0) rfl) rfl) (pv 1)) (pe_gi rfl X.c_MOST_ENTRIES) (nomark _)) (pa_cons (pe_un un_neg pe_int) pa_nil))))), ?_⟩), F.binds fun _ _ _ _ _ _ us hl => match us, hl with | [_, _], _ => rfl⟩
  · obtain ⟨_, _, _, _, rfl, _⟩ := h
    rfl
  · obtain ⟨d, L, m, x, rfl, c, h1, h2⟩ := h
    exact q_call (ea_cons (ev_i0 (ev_i0 (ev_St_entries X c.st.st (ev_De_state X c.ob (ev_var rfl))) (ev_var rfl)) ev_c) (ea_cons (ev_neg ev_c) ea_nil)) fun H2 e2 => ⟨decide (m.entries + x > 400), -9, rfl, fun hb => (h1 hb).ex e2, fun hb H3 e3 => h2 hb H3 (e2.trans e3)⟩
section
variable {σ : L2.St} {H : Hp} {t0 t1 : TE} {D : Ends} {tz : TS} {k : Re} {E : XK} {d : Addr} {L : Lay} {m : M} {Q : VK} {n x : Int} {i0 : Nat}
theorem q_look {f : Nat → MS → Re} (c : DAt A H d L m) (dq : DeskQ A E H d L Q (onS m n f)) (h0 : Ev t0 σ H (.ref d)) (h1 : Ev t1 σ H (.int n))
    (kk : ∀ H1 i a, Ex H H1 → m.find n = some i → i < m.schools.length → L.ss[i]? = some a → At H1 a A.Sc (msF (m.sch i)) → DAt A H1 d L m → DeskQ A E H1 d L Q (f i (m.sch i)) → tz D (σ.set i0 (some (.ref a))) H1) :
    tSeq (tAsg (tMeth A.De "look_up" (sp_De_look_up K A) [] E t0 (tCons t1 tNil)) (gName i0)) tz D σ H :=
  q_meth h0 c.ob (no_De_look_up _) (ea_cons h1 ea_nil) fun H1 e1 => ⟨d, L, m, n, rfl, c.ex e1, fun hb => ((dq_onS dq).1 hb).ex e1, fun i hb H2 e2 => by
    have c2 := c.ex (e1.trans e2)
    obtain ⟨hl, _⟩ := find_lt hb
    obtain ⟨a, ha, hs⟩ := c2.st.sch_get hl
    have e : L.ss.getD i 0 = a := getD_of ha
    rw [e]
    exact kk H2 i a (e1.trans e2) hb hl ha hs c2 (((dq_onS dq).2 i hb).ex (e1.trans e2))⟩
theorem q_offer {f : MO → Re} (c : DAt A H d L m) (dq : DeskQ A E H d L Q (onO m n f)) (h0 : Ev t0 σ H (.ref d)) (h1 : Ev t1 σ H (.int n))
    (kk : ∀ H1 i a, Ex H H1 → i < m.offers.length → At H1 a A.Of (moF (m.off i)) → DAt A H1 d L m → DeskQ A E H1 d L Q (f (m.off i)) → tz D (σ.set i0 (some (.ref a))) H1) :
    tSeq (tAsg (tMeth A.De "offer" (sp_De_offer K A) [] E t0 (tCons t1 tNil)) (gName i0)) tz D σ H :=
  q_meth h0 c.ob (no_De_offer _) (ea_cons h1 ea_nil) fun H1 e1 => ⟨d, L, m, n, rfl, c.ex e1, fun hb => ((dq_onO dq).1 hb).ex e1, fun i hb H2 e2 => by
    have c2 := c.ex (e1.trans e2)
    obtain ⟨hl, _⟩ := findO_lt hb
    have hlo := c2.st.bd.os.len
    have ha : L.os[i]? = some (L.os[i]'(by omega)) := List.getElem?_eq_getElem _
    generalize hav : L.os[i]'(by omega) = a at ha
    have e : L.os.getD i 0 = a := getD_of ha
    rw [e]
    refine kk H2 i a (e1.trans e2) hl (c2.st.bd.os.ob i a _ ha ?_) c2 (((dq_onO dq).2 i hb).ex (e1.trans e2))
    unfold M.off
    rw [List.getD_eq_getElem?_getD, List.getElem?_eq_getElem hl]
    rfl⟩
theorem q_lookc (c : DAt A H d L m) (dq : DeskQ A E H d L Q (refuse m.closed (-4) k)) (h0 : Ev t0 σ H (.ref d)) (kk : m.closed = false → ∀ H1, Ex H H1 → DAt A H1 d L m → DeskQ A E H1 d L Q k → tz D σ H1) :
    tSeq (tDrop (tMeth A.De "look_closed" (sp_De_look_closed K A) [] E t0 tNil)) tz D σ H :=
  q_meth h0 c.ob (no_De_look_closed _) ea_nil fun H1 e1 => ⟨d, L, m, rfl, c.ex e1, fun hb => ((dq_ref dq).1 hb).ex e1, fun hb H2 e2 => kk hb H2 (e1.trans e2) (c.ex (e1.trans e2)) (((dq_ref dq).2 hb).ex (e1.trans e2))⟩
theorem q_looke (c : DAt A H d L m) (dq : DeskQ A E H d L Q (refuse (decide (m.entries + x > 400)) (-9) k)) (h0 : Ev t0 σ H (.ref d)) (h1 : Ev t1 σ H (.int x)) (kk : ∀ H1, Ex H H1 → DAt A H1 d L m → DeskQ A E H1 d L Q k → tz D σ H1) :
    tSeq (tDrop (tMeth A.De "look_entries" (sp_De_look_entries K A) [] E t0 (tCons t1 tNil))) tz D σ H :=
  q_meth h0 c.ob (no_De_look_entries _) (ea_cons h1 ea_nil) fun H1 e1 => ⟨d, L, m, x, rfl, c.ex e1, fun hb => ((dq_ref dq).1 hb).ex e1, fun hb H2 e2 => kk H2 (e1.trans e2) (c.ex (e1.trans e2)) (((dq_ref dq).2 hb).ex (e1.trans e2))⟩
theorem ev_outside {lo hi n : Int} {ta : TE} (ha : Ev ta σ H (.int n)) : Ev (tNotV (tChain (rI0 fun i j => .bl (decide (i ≤ j))) (rI0 fun i j => .bl (decide (i ≤ j))) (tC (.int lo)) ta (tC (.int hi)))) σ H (.bl (outside lo hi n)) :=
  ev_notV (ev_chain ev_c ha ev_c)
end
/-! ### calls about one school -/
def sp_De_want (K : PySem.W.Frag) (A : Ads) : Sp := fun vs H Q E => ∃ (d : Addr) (L : Lay) (m : M) (n x : Int), vs = [.ref d, .int n, .int x] ∧ DAt A H d L m ∧ Bounds m ∧ DeskQ A E H d L Q (wantM m n x)
theorem ok_De_want (X : Tx K mg A) : Okd P w K mg base (L2.CX P w) 5 A.De_want ["self", "number", "wanted"] (sp_De_want K A) := by
  obtain ⟨fd_f_refuse_if, G_f_refuse_if, b_f_refuse_if⟩ := ok_f_refuse_if (P := P) (w := w) (base := base) X
  obtain ⟨fd_St_load, G_St_load, b_St_load⟩ := ok_St_load (P := P) (w := w) (base := base) X
  obtain ⟨fd_De_look_closed, G_De_look_closed, b_De_look_closed⟩ := ok_De_look_closed (P := P) (w := w) (base := base) X
  obtain ⟨fd_De_look_up, G_De_look_up, b_De_look_up⟩ := ok_De_look_up (P := P) (w := w) (base := base) X
  obtain ⟨fd, F⟩ := X.fn_De_want
  refine ⟨fd, F.okX sc_De_want (fun vs H Q E h => ?_) (fun cdv A' outer s H vs Q E hr h => ⟨_, (pss_cons (ps_set (i := 3) sc_De_want.nd rfl (Or.inl rfl) (pe_meth (pv 0) X.cl_De X.m_De_look_up G_De_look_up (hr.mono (by decide)) b_De_look_up .nil passE (pa_cons (pv 1) pa_nil)))
    (pss_cons (ps_expr (pe_call G_f_refuse_if (hr.mono (by decide)) rfl X.g_f_refuse_if X.k_f_refuse_if b_f_refuse_if .nil passE (pa_cons (pe_not (pe_chain op_le op_le pe_int (pv 2) pe_int)) (pa_cons (pe_un un_neg pe_int) pa_nil))))
    (pss_cons (ps_expr (pe_meth0 (pv 0) X.cl_De X.m_De_look_closed G_De_look_closed (hr.mono (by decide)) b_De_look_closed .nil passE))
    (pss_cons (ps_set (i := 4) sc_De_want.nd rfl (Or.inl rfl) (pe_meth (pe_fld (pv 0) rfl) X.cl_St X.m_St_load G_St_load (hr.mono (by decide)) b_St_load .nil pass0 (pa_cons (pv 3) pa_nil)))
    (pss_cons (ps_expr (pe_call G_f_refuse_if (hr.mono (by decide)) rfl X.g_f_refuse_if X.k_f_refuse_if b_f_refuse_if .nil passE (pa_cons (pe_cmpR op_lt (pv 2) (pv 4) (nomark _)) (pa_cons (pe_un un_neg pe_int) pa_nil))))
    (pss_cons (ps_fld (pv 3) (pv 2) rfl)
    (pss_one (ps_ret (pe_lst (pa_cons (pe_op op_sub (pv 2) (pv 4)) pa_nil)))))))))), ?_⟩), F.binds fun _ _ _ _ _ _ us hl => match us, hl with | [_, _, _], _ => rfl⟩
  · obtain ⟨_, _, _, _, _, rfl, _⟩ := h
    rfl
  · obtain ⟨d, L, m, n, x, rfl, c, b, dq⟩ := h
    refine q_look c dq (ev_var rfl) (ev_var rfl) fun H1 i a e1 hf hl ha hs c dq => ?_
    refine q_ref c dq (ev_outside (ev_var rfl)) (ev_neg ev_c) fun _ H2 e2 c dq => ?_
    refine q_lookc c dq (ev_var rfl) fun _ H3 e3 c dq => ?_
    have hs3 := (hs.ex e2).ex e3
    refine q_asg (ev_meth (ev_De_state X c.ob (ev_var rfl)) c.st.st (no_St_load _ _) (ea_cons (ev_var rfl) ea_nil) fun H4 e4 Q' q E' => ⟨L, m, a, m.sch i, rfl, c.st.ex e4, b.offs, hs3.ex e4, q⟩) fun H4 e4 => ?_
    refine q_ref (c.ex e4) (dq.ex e4) (ev_i0 (ev_var rfl) (ev_var rfl)) (ev_neg ev_c) fun _ H5 e5 c dq => ?_
    refine h_sc X (Hand.of c ha hl) (ev_var rfl) (ev_var rfl) X.na_Sc_wanted (pt_Sc_wanted _ _) fun H6 hh => ?_
    exact s_retL (el_lst (ea_cons (ev_i0 (ev_var rfl) (ev_var rfl)) ea_nil) (by show 1 ≤ 100000; decide)) (dq.fin hh.f hh.c)
def sp_De_bring (K : PySem.W.Frag) (A : Ads) : Sp := fun vs H Q E => ∃ (d : Addr) (L : Lay) (m : M) (n x : Int), vs = [.ref d, .int n, .int x] ∧ DAt A H d L m ∧ Bounds m ∧ DeskQ A E H d L Q (bringM m n x)
theorem ok_De_bring (X : Tx K mg A) : Okd P w K mg base (L2.CX P w) 5 A.De_bring ["self", "number", "judges"] (sp_De_bring K A) := by
  obtain ⟨fd_Ru_owed, G_Ru_owed, b_Ru_owed⟩ := ok_Ru_owed (P := P) (w := w) (base := base) X
  obtain ⟨fd_De_look_closed, G_De_look_closed, b_De_look_closed⟩ := ok_De_look_closed (P := P) (w := w) (base := base) X
  obtain ⟨fd_f_refuse_if, G_f_refuse_if, b_f_refuse_if⟩ := ok_f_refuse_if (P := P) (w := w) (base := base) X
  obtain ⟨fd_De_look_up, G_De_look_up, b_De_look_up⟩ := ok_De_look_up (P := P) (w := w) (base := base) X
  obtain ⟨fd, F⟩ := X.fn_De_bring
  refine ⟨fd, F.okX sc_De_bring (fun vs H Q E h => ?_) (fun cdv A' outer s H vs Q E hr h => ⟨_, (pss_cons (ps_set (i := 3) sc_De_bring.nd rfl (Or.inl rfl) (pe_meth (pv 0) X.cl_De X.m_De_look_up G_De_look_up (hr.mono (by decide)) b_De_look_up .nil passE (pa_cons (pv 1) pa_nil)))
    (pss_cons (ps_expr (pe_call G_f_refuse_if (hr.mono (by decide)) rfl X.g_f_refuse_if X.k_f_refuse_if b_f_refuse_if .nil passE (pa_cons (pe_not (pe_chain op_le op_le pe_int (pv 2) pe_int)) (pa_cons (pe_un un_neg pe_int) pa_nil))))
    (pss_cons (ps_expr (pe_meth0 (pv 0) X.cl_De X.m_De_look_closed G_De_look_closed (hr.mono (by decide)) b_De_look_closed .nil passE))
    (pss_cons (ps_fld (pv 3) (pv 2) rfl)
    (pss_one (ps_ret (pe_lst (pa_cons (pe_meth (pe_fld (pe_fld (pv 0) rfl) rfl) X.cl_Ru X.m_Ru_owed G_Ru_owed (hr.mono (by decide)) b_Ru_owed .nil pass0 (pa_cons (pe_fld (pv 3) rfl) pa_nil)) pa_nil)))))))), ?_⟩), F.binds fun _ _ _ _ _ _ us hl => match us, hl with | [_, _, _], _ => rfl⟩
  · obtain ⟨_, _, _, _, _, rfl, _⟩ := h
    rfl
  · obtain ⟨d, L, m, n, x, rfl, c, b, dq⟩ := h
    refine q_look c dq (ev_var rfl) (ev_var rfl) fun H1 i a e1 hf hl ha hs c dq => ?_
    refine q_ref c dq (ev_outside (ev_var rfl)) (ev_neg ev_c) fun _ H2 e2 c dq => ?_
    refine q_lookc c dq (ev_var rfl) fun _ H3 e3 c dq => ?_
    refine h_sc X (Hand.of c ha hl) (ev_var rfl) (ev_var rfl) X.na_Sc_judges (pt_Sc_judges _ _) fun H6 hh => ?_
    have st := hh.c.st
    exact s_retL (el_lst (ea_cons (ev_meth (ev_St_rules X st.st (ev_De_state X hh.c.ob (ev_var rfl))) st.bd.ru.ob (no_Ru_owed _) (ea_cons (ev_Sc_has X hh.hs (ev_var rfl)) ea_nil) fun H7 e7 Q' q E' => ⟨L.ru, L.rl, m.rules, _, rfl, st.bd.ru.ex e7, b.each, b.many, q⟩) ea_nil) (by show 1 ≤ 100000; decide)) (dq.fin hh.f hh.c)
def sp_De_pay (K : PySem.W.Frag) (A : Ads) : Sp := fun vs H Q E => ∃ (d : Addr) (L : Lay) (m : M) (n x : Int), vs = [.ref d, .int n, .int x] ∧ DAt A H d L m ∧ Bounds m ∧ DeskQ A E H d L Q (payM m n x)
theorem ok_De_pay (X : Tx K mg A) : Okd P w K mg base (L2.CX P w) 5 A.De_pay ["self", "number", "much"] (sp_De_pay K A) := by
  obtain ⟨fd_Sc_account, G_Sc_account, b_Sc_account⟩ := ok_Sc_account (P := P) (w := w) (base := base) X
  obtain ⟨fd_De_look_entries, G_De_look_entries, b_De_look_entries⟩ := ok_De_look_entries (P := P) (w := w) (base := base) X
  obtain ⟨fd_f_refuse_if, G_f_refuse_if, b_f_refuse_if⟩ := ok_f_refuse_if (P := P) (w := w) (base := base) X
  obtain ⟨fd_De_look_up, G_De_look_up, b_De_look_up⟩ := ok_De_look_up (P := P) (w := w) (base := base) X
  obtain ⟨fd, F⟩ := X.fn_De_pay
  refine ⟨fd, F.okX sc_De_pay (fun vs H Q E h => ?_) (fun cdv A' outer s H vs Q E hr h => ⟨_, (pss_cons (ps_set (i := 3) sc_De_pay.nd rfl (Or.inl rfl) (pe_meth (pv 0) X.cl_De X.m_De_look_up G_De_look_up (hr.mono (by decide)) b_De_look_up .nil passE (pa_cons (pv 1) pa_nil)))
    (pss_cons (ps_expr (pe_call G_f_refuse_if (hr.mono (by decide)) rfl X.g_f_refuse_if X.k_f_refuse_if b_f_refuse_if .nil passE (pa_cons (pe_not (pe_chain op_le op_le pe_int (pv 2) pe_int)) (pa_cons (pe_un un_neg pe_int) pa_nil))))
    (pss_cons (ps_expr (pe_meth (pv 0) X.cl_De X.m_De_look_entries G_De_look_entries (hr.mono (by decide)) b_De_look_entries .nil passE (pa_cons pe_int pa_nil)))
    (pss_cons (ps_fldaug (pv 3) (pv 2) in_add)
    (pss_cons (ps_fldaug (pe_fld (pv 0) rfl) pe_int in_add)
    (pss_one (ps_ret (pe_lst (pa_cons (pe_meth0 (pv 3) X.cl_Sc X.m_Sc_account G_Sc_account (hr.mono (by decide)) b_Sc_account .nil pass0) pa_nil))))))))), ?_⟩), F.binds fun _ _ _ _ _ _ us hl => match us, hl with | [_, _, _], _ => rfl⟩
  · obtain ⟨_, _, _, _, _, rfl, _⟩ := h
    rfl
  · obtain ⟨d, L, m, n, x, rfl, c, b, dq⟩ := h
    refine q_look c dq (ev_var rfl) (ev_var rfl) fun H1 i a e1 hf hl ha hs c dq => ?_
    refine q_ref c dq (ev_outside (ev_var rfl)) (ev_neg ev_c) fun _ H2 e2 c dq => ?_
    refine q_looke c dq (ev_var rfl) ev_c fun H3 e3 c dq => ?_
    refine h_scA X (Hand.of c ha hl) (ev_var rfl) (ev_var rfl) X.na_Sc_paid (lk_Sc_paid _) (pt_Sc_paid _ _) fun H6 hh => ?_
    refine h_ent X hh (ev_De_state X hh.c.ob (ev_var rfl)) ev_c fun H7 hh => ?_
    exact s_retL (el_lst (ea_cons (ev_meth (ev_var rfl) hh.hs (no_Sc_account _) ea_nil fun H8 e8 Q' q E' => ⟨a, _, rfl, hh.hs.ex e8, q⟩) ea_nil) (by show 1 ≤ 100000; decide)) (dq.fin hh.f hh.c)
def sp_De_payout (K : PySem.W.Frag) (A : Ads) : Sp := fun vs H Q E => ∃ (d : Addr) (L : Lay) (m : M) (n : Int), vs = [.ref d, .int n] ∧ DAt A H d L m ∧ Bounds m ∧ DeskQ A E H d L Q (payoutM m n)
theorem ok_De_payout (X : Tx K mg A) : Okd P w K mg base (L2.CX P w) 5 A.De_payout ["self", "number"] (sp_De_payout K A) := by
  obtain ⟨fd_De_look_entries, G_De_look_entries, b_De_look_entries⟩ := ok_De_look_entries (P := P) (w := w) (base := base) X
  obtain ⟨fd_f_refuse_if, G_f_refuse_if, b_f_refuse_if⟩ := ok_f_refuse_if (P := P) (w := w) (base := base) X
  obtain ⟨fd_Sc_account, G_Sc_account, b_Sc_account⟩ := ok_Sc_account (P := P) (w := w) (base := base) X
  obtain ⟨fd_De_look_up, G_De_look_up, b_De_look_up⟩ := ok_De_look_up (P := P) (w := w) (base := base) X
  obtain ⟨fd, F⟩ := X.fn_De_payout
  refine ⟨fd, F.okX sc_De_payout (fun vs H Q E h => ?_) (fun cdv A' outer s H vs Q E hr h => ⟨_, (pss_cons (ps_set (i := 2) sc_De_payout.nd rfl (Or.inl rfl) (pe_meth (pv 0) X.cl_De X.m_De_look_up G_De_look_up (hr.mono (by decide)) b_De_look_up .nil passE (pa_cons (pv 1) pa_nil)))
    (pss_cons (ps_set (i := 3) sc_De_payout.nd rfl (Or.inl rfl) (pe_meth0 (pv 2) X.cl_Sc X.m_Sc_account G_Sc_account (hr.mono (by decide)) b_Sc_account .nil pass0))
    (pss_cons (ps_expr (pe_call G_f_refuse_if (hr.mono (by decide)) rfl X.g_f_refuse_if X.k_f_refuse_if b_f_refuse_if .nil passE (pa_cons (pe_cmpR op_le (pv 3) pe_int (nomark _)) (pa_cons (pe_un un_neg pe_int) pa_nil))))
    (pss_cons (ps_expr (pe_meth (pv 0) X.cl_De X.m_De_look_entries G_De_look_entries (hr.mono (by decide)) b_De_look_entries .nil passE (pa_cons pe_int pa_nil)))
    (pss_cons (ps_fldaug (pv 2) (pv 3) in_add)
    (pss_cons (ps_fldaug (pe_fld (pv 0) rfl) pe_int in_add)
    (pss_one (ps_ret (pe_lst (pa_cons (pv 3) pa_nil)))))))))), ?_⟩), F.binds fun _ _ _ _ _ _ us hl => match us, hl with | [_, _], _ => rfl⟩
  · obtain ⟨_, _, _, _, rfl, _⟩ := h
    rfl
  · obtain ⟨d, L, m, n, rfl, c, b, dq⟩ := h
    refine q_look c dq (ev_var rfl) (ev_var rfl) fun H1 i a e1 hf hl ha hs c dq => ?_
    refine q_asg (ev_meth (ev_var rfl) hs (no_Sc_account _) ea_nil fun H2 e2 Q' q E' => ⟨a, _, rfl, hs.ex e2, q⟩) fun H2 e2 => ?_
    refine q_ref (c.ex e2) (dq.ex e2) (ev_i0 (ev_var rfl) ev_c) (ev_neg ev_c) fun _ H3 e3 c dq => ?_
    refine q_looke c dq (ev_var rfl) ev_c fun H4 e4 c dq => ?_
    refine h_scA X (Hand.of c ha hl) (ev_var rfl) (ev_var rfl) X.na_Sc_out (lk_Sc_out _) (pt_Sc_out _ _) fun H6 hh => ?_
    refine h_ent X hh (ev_De_state X hh.c.ob (ev_var rfl)) ev_c fun H7 hh => ?_
    exact s_retL (el_lst (ea_cons (ev_var rfl) ea_nil) (by show 1 ≤ 100000; decide)) (dq.fin hh.f hh.c)
def sp_De_drop (K : PySem.W.Frag) (A : Ads) : Sp := fun vs H Q E => ∃ (d : Addr) (L : Lay) (m : M) (n x : Int), vs = [.ref d, .int n, .int x] ∧ DAt A H d L m ∧ Bounds m ∧ DeskQ A E H d L Q (dropM m n x)
theorem ok_De_drop (X : Tx K mg A) : Okd P w K mg base (L2.CX P w) 5 A.De_drop ["self", "number", "many"] (sp_De_drop K A) := by
  obtain ⟨fd_Ru_percent, G_Ru_percent, b_Ru_percent⟩ := ok_Ru_percent (P := P) (w := w) (base := base) X
  obtain ⟨fd_Ru_given_back, G_Ru_given_back, b_Ru_given_back⟩ := ok_Ru_given_back (P := P) (w := w) (base := base) X
  obtain ⟨fd_De_look_entries, G_De_look_entries, b_De_look_entries⟩ := ok_De_look_entries (P := P) (w := w) (base := base) X
  obtain ⟨fd_f_refuse_if, G_f_refuse_if, b_f_refuse_if⟩ := ok_f_refuse_if (P := P) (w := w) (base := base) X
  obtain ⟨fd_De_look_closed, G_De_look_closed, b_De_look_closed⟩ := ok_De_look_closed (P := P) (w := w) (base := base) X
  obtain ⟨fd_De_look_up, G_De_look_up, b_De_look_up⟩ := ok_De_look_up (P := P) (w := w) (base := base) X
  obtain ⟨fd, F⟩ := X.fn_De_drop
  refine ⟨fd, F.okX sc_De_drop (fun vs H Q E h => ?_) (fun cdv A' outer s H vs Q E hr h => ⟨_, (pss_cons (ps_set (i := 3) sc_De_drop.nd rfl (Or.inl rfl) (pe_meth (pv 0) X.cl_De X.m_De_look_up G_De_look_up (hr.mono (by decide)) b_De_look_up .nil passE (pa_cons (pv 1) pa_nil)))
    (pss_cons (ps_expr (pe_call G_f_refuse_if (hr.mono (by decide)) rfl X.g_f_refuse_if X.k_f_refuse_if b_f_refuse_if .nil passE (pa_cons (pe_not (pe_chain op_le op_le pe_int (pv 2) pe_int)) (pa_cons (pe_un un_neg pe_int) pa_nil))))
    (pss_cons (ps_expr (pe_meth0 (pv 0) X.cl_De X.m_De_look_closed G_De_look_closed (hr.mono (by decide)) b_De_look_closed .nil passE))
    (pss_cons (ps_expr (pe_call G_f_refuse_if (hr.mono (by decide)) rfl X.g_f_refuse_if X.k_f_refuse_if b_f_refuse_if .nil passE (pa_cons (pe_cmpR op_lt (pe_fld (pv 3) rfl) (pv 2) (nomark _)) (pa_cons (pe_un un_neg pe_int) pa_nil))))
    (pss_cons (ps_expr (pe_meth (pv 0) X.cl_De X.m_De_look_entries G_De_look_entries (hr.mono (by decide)) b_De_look_entries .nil passE (pa_cons pe_int pa_nil)))
    (pss_cons (ps_set (i := 4) sc_De_drop.nd rfl (Or.inl rfl) (pe_op op_mul (pv 2) (pe_meth (pe_fld (pe_fld (pv 0) rfl) rfl) X.cl_Ru X.m_Ru_given_back G_Ru_given_back (hr.mono (by decide)) b_Ru_given_back .nil pass0 (pa_cons (pe_fld (pe_fld (pv 0) rfl) rfl) pa_nil))))
    (pss_cons (ps_fldaug (pv 3) (pv 2) in_sub)
    (pss_cons (ps_fldaug (pv 3) (pv 2) in_sub)
    (pss_cons (ps_fldaug (pv 3) (pv 4) in_add)
    (pss_cons (ps_fldaug (pe_fld (pv 0) rfl) pe_int in_add)
    (pss_one (ps_ret (pe_lst (pa_cons (pv 4) (pa_cons (pe_meth (pe_fld (pe_fld (pv 0) rfl) rfl) X.cl_Ru X.m_Ru_percent G_Ru_percent (hr.mono (by decide)) b_Ru_percent .nil pass0 (pa_cons (pe_fld (pe_fld (pv 0) rfl) rfl) pa_nil)) pa_nil))))))))))))))), ?_⟩), F.binds fun _ _ _ _ _ _ us hl => match us, hl with | [_, _, _], _ => rfl⟩
  · obtain ⟨_, _, _, _, _, rfl, _⟩ := h
    rfl
  · obtain ⟨d, L, m, n, x, rfl, c, b, dq⟩ := h
    refine q_look c dq (ev_var rfl) (ev_var rfl) fun H1 i a e1 hf hl ha hs c dq => ?_
    refine q_ref c dq (ev_outside (ev_var rfl)) (ev_neg ev_c) fun hx H2 e2 c dq => ?_
    refine q_lookc c dq (ev_var rfl) fun _ H3 e3 c dq => ?_
    have hs3 := (hs.ex e2).ex e3
    refine q_ref c dq (ev_i0 (ev_Sc_has X hs3 (ev_var rfl)) (ev_var rfl)) (ev_neg ev_c) fun _ H4 e4 c dq => ?_
    refine q_looke c dq (ev_var rfl) ev_c fun H5 e5 c dq => ?_
    have hx60 : 1 ≤ x ∧ x ≤ 60 := by
      unfold outside at hx
      rw [Bool.not_eq_false', Bool.and_eq_true] at hx
      exact ⟨of_decide_eq_true hx.1, of_decide_eq_true hx.2⟩
    have st := c.st
    refine q_asg (v := .int (x * m.rules.givenBack m.day)) (ev_iC (ev_var rfl) (ev_meth (ev_St_rules X st.st (ev_De_state X c.ob (ev_var rfl))) st.bd.ru.ob (no_Ru_given_back _) (ea_cons (ev_St_day X st.st (ev_De_state X c.ob (ev_var rfl))) ea_nil) fun H6 e6 Q' q E' => ⟨L.ru, L.rl, m.rules, m.day, rfl, st.bd.ru.ex e6, b.back, q⟩) (.inl ⟨by omega, by omega⟩)) fun H6 e6 => ?_
    have c6 := c.ex e6
    have dq6 := dq.ex e6
    refine h_scS X (Hand.of c6 ha hl) (ev_var rfl) (ev_var rfl) X.na_Sc_has (lk_Sc_has _) (pt_Sc_has _ _) fun H7 hh => ?_
    refine h_scS X hh (ev_var rfl) (ev_var rfl) X.na_Sc_wanted (lk_Sc_wanted _) (pt_Sc_wanted _ _) fun H8 hh => ?_
    refine h_scA X hh (ev_var rfl) (ev_var rfl) X.na_Sc_given (lk_Sc_given _) (pt_Sc_given _ _) fun H9 hh => ?_
    refine h_ent X hh (ev_De_state X hh.c.ob (ev_var rfl)) ev_c fun H10 hh => ?_
    have st := hh.c.st
    exact s_retL (el_lst (ea_cons (ev_var rfl) (ea_cons (ev_meth (ev_St_rules X st.st (ev_De_state X hh.c.ob (ev_var rfl))) st.bd.ru.ob (no_Ru_percent _) (ea_cons (ev_St_day X st.st (ev_De_state X hh.c.ob (ev_var rfl))) ea_nil) fun H11 e11 Q' q E' => ⟨L.ru, L.rl, m.rules, m.day, rfl, st.bd.ru.ex e11, ⟨b.back.1, b.back.2.1⟩, q⟩) ea_nil)) (by show 2 ≤ 100000; decide)) (dq6.fin hh.f hh.c)
end
end Eh

-- EhW11
set_option Elab.async false
set_option linter.all false
set_option maxRecDepth 100000
set_option maxHeartbeats 4000000
namespace Eh
open PySem PySem.Spec PyProof.Rows L2 EhR EhZ Evl
section
variable {P : Program} {w : World} {K : PySem.W.Frag} {mg : Str → Option Value} {base : Heap} {A : Ads}
def sp_De_accept (K : PySem.W.Frag) (A : Ads) : Sp := fun vs H Q E => ∃ (d : Addr) (L : Lay) (m : M) (n : Int), vs = [.ref d, .int n] ∧ DAt A H d L m ∧ Bounds m ∧ DeskQ A E H d L Q (acceptM m n)
theorem ok_De_accept (X : Tx K mg A) : Okd P w K mg base (L2.CX P w) 5 A.De_accept ["self", "number"] (sp_De_accept K A) := by
  obtain ⟨fd_St_take_away, G_St_take_away, b_St_take_away⟩ := ok_St_take_away (P := P) (w := w) (base := base) X
  obtain ⟨fd_De_look_up, G_De_look_up, b_De_look_up⟩ := ok_De_look_up (P := P) (w := w) (base := base) X
  obtain ⟨fd_De_look_entries, G_De_look_entries, b_De_look_entries⟩ := ok_De_look_entries (P := P) (w := w) (base := base) X
  obtain ⟨fd_De_look_closed, G_De_look_closed, b_De_look_closed⟩ := ok_De_look_closed (P := P) (w := w) (base := base) X
  obtain ⟨fd_De_offer, G_De_offer, b_De_offer⟩ := ok_De_offer (P := P) (w := w) (base := base) X
  obtain ⟨fd, F⟩ := X.fn_De_accept
  refine ⟨fd, F.okX sc_De_accept (fun vs H Q E h => ?_) (fun cdv A' outer s H vs Q E hr h => ⟨_, (pss_cons (ps_set (i := 2) sc_De_accept.nd rfl (Or.inl rfl) (pe_meth (pv 0) X.cl_De X.m_De_offer G_De_offer (hr.mono (by decide)) b_De_offer .nil passE (pa_cons (pv 1) pa_nil)))
    (pss_cons (ps_expr (pe_meth0 (pv 0) X.cl_De X.m_De_look_closed G_De_look_closed (hr.mono (by decide)) b_De_look_closed .nil passE))
    (pss_cons (ps_expr (pe_meth (pv 0) X.cl_De X.m_De_look_entries G_De_look_entries (hr.mono (by decide)) b_De_look_entries .nil passE (pa_cons pe_int pa_nil)))
    (pss_cons (ps_set (i := 3) sc_De_accept.nd rfl (Or.inl rfl) (pe_meth (pv 0) X.cl_De X.m_De_look_up G_De_look_up (hr.mono (by decide)) b_De_look_up .nil passE (pa_cons (pe_fld (pv 2) rfl) pa_nil)))
    (pss_cons (ps_expr (pe_meth (pe_fld (pv 0) rfl) X.cl_St X.m_St_take_away G_St_take_away (hr.mono (by decide)) b_St_take_away .nil pass0 (pa_cons (pv 2) pa_nil)))
    (pss_cons (ps_fldaug (pv 3) pe_int in_add)
    (pss_cons (ps_fldaug (pv 3) (pe_ix ix_list (pe_fld (pe_fld (pe_fld (pv 0) rfl) rfl) rfl) pe_int (fun _ _ => rfl)) in_add)
    (pss_cons (ps_fldaug (pe_fld (pv 0) rfl) pe_int in_add)
    (pss_one (ps_ret (pe_lst (pa_cons (pe_fld (pv 3) rfl) (pa_cons (pe_fld (pv 3) rfl) pa_nil))))))))))))), ?_⟩), F.binds fun _ _ _ _ _ _ us hl => match us, hl with | [_, _], _ => rfl⟩
  · obtain ⟨_, _, _, _, rfl, _⟩ := h
    rfl
  · obtain ⟨d, L, m, n, rfl, c, b, dq⟩ := h
    refine q_offer c dq (ev_var rfl) (ev_var rfl) fun H1 j oa e1 hjl ho c dq => ?_
    refine q_lookc c dq (ev_var rfl) fun _ H2 e2 c dq => ?_
    refine q_looke c dq (ev_var rfl) ev_c fun H3 e3 c dq => ?_
    have ho3 := (ho.ex e2).ex e3
    refine q_look c dq (ev_var rfl) (ev_Of_school X ho3 (ev_var rfl)) fun H4 i a e4 hf hl ha hs c dq => ?_
    refine q_meth (ev_De_state X c.ob (ev_var rfl)) c.st.st (no_St_take_away _ _) (ea_cons (ev_var rfl) ea_nil) fun H5 e5 => ⟨L, m, oa, m.off j, rfl, c.st.ex e5, b.offs, (ho3.ex e4).ex e5, fun H6 L6 h6 s6 ss6 f6 => ?_⟩
    have c6 := (c.ex e5).of f6 h6 s6
    have hand : Hand A H6 H6 d L6 L6 (m.takeAway (m.off j).number) i a ((m.takeAway (m.off j).number).sch i) := Hand.of c6 (by rw [ss6]; exact ha) hl
    refine h_scA X hand (ev_var rfl) ev_c X.na_Sc_has (lk_Sc_has _) (pt_Sc_has _ _) fun H7 hh => ?_
    refine h_scA X hh (ev_var rfl) (ev_ix0 (ev_Ru_fee X hh.c.st.bd.ru.ob (ev_St_rules X hh.c.st.st (ev_De_state X hh.c.ob (ev_var rfl)))) hh.c.st.bd.ru.fee) X.na_Sc_fees (lk_Sc_fees _) (pt_Sc_fees _ _) fun H8 hh => ?_
    refine h_ent X hh (ev_De_state X hh.c.ob (ev_var rfl)) ev_c fun H9 hh => ?_
    have f9 : Fr H4 H9 (dfoot d L) (dfoot d L6) := (Fr.of_ex e5 f6.desk).trans hh.f
    exact s_retL (el_lst (ea_cons (ev_Sc_has X hh.hs (ev_var rfl)) (ea_cons (ev_Sc_number X hh.hs (ev_var rfl)) ea_nil)) (by show 2 ≤ 100000; decide)) (dq.fin f9 hh.c)
def sp_De_decline (K : PySem.W.Frag) (A : Ads) : Sp := fun vs H Q E => ∃ (d : Addr) (L : Lay) (m : M) (n : Int), vs = [.ref d, .int n] ∧ DAt A H d L m ∧ Bounds m ∧ DeskQ A E H d L Q (declineM m n)
theorem ok_De_decline (X : Tx K mg A) : Okd P w K mg base (L2.CX P w) 5 A.De_decline ["self", "number"] (sp_De_decline K A) := by
  obtain ⟨fd_St_take_away, G_St_take_away, b_St_take_away⟩ := ok_St_take_away (P := P) (w := w) (base := base) X
  obtain ⟨fd_De_look_up, G_De_look_up, b_De_look_up⟩ := ok_De_look_up (P := P) (w := w) (base := base) X
  obtain ⟨fd_De_look_closed, G_De_look_closed, b_De_look_closed⟩ := ok_De_look_closed (P := P) (w := w) (base := base) X
  obtain ⟨fd_De_offer, G_De_offer, b_De_offer⟩ := ok_De_offer (P := P) (w := w) (base := base) X
  obtain ⟨fd, F⟩ := X.fn_De_decline
  refine ⟨fd, F.okX sc_De_decline (fun vs H Q E h => ?_) (fun cdv A' outer s H vs Q E hr h => ⟨_, (pss_cons (ps_set (i := 2) sc_De_decline.nd rfl (Or.inl rfl) (pe_meth (pv 0) X.cl_De X.m_De_offer G_De_offer (hr.mono (by decide)) b_De_offer .nil passE (pa_cons (pv 1) pa_nil)))
    (pss_cons (ps_expr (pe_meth0 (pv 0) X.cl_De X.m_De_look_closed G_De_look_closed (hr.mono (by decide)) b_De_look_closed .nil passE))
    (pss_cons (ps_set (i := 3) sc_De_decline.nd rfl (Or.inl rfl) (pe_meth (pv 0) X.cl_De X.m_De_look_up G_De_look_up (hr.mono (by decide)) b_De_look_up .nil passE (pa_cons (pe_fld (pv 2) rfl) pa_nil)))
    (pss_cons (ps_expr (pe_meth (pe_fld (pv 0) rfl) X.cl_St X.m_St_take_away G_St_take_away (hr.mono (by decide)) b_St_take_away .nil pass0 (pa_cons (pv 2) pa_nil)))
    (pss_cons (ps_fldaug (pv 3) pe_int in_sub)
    (pss_one (ps_ret (pe_lst (pa_cons (pe_fld (pv 3) rfl) (pa_cons (pe_fld (pv 3) rfl) pa_nil)))))))))), ?_⟩), F.binds fun _ _ _ _ _ _ us hl => match us, hl with | [_, _], _ => rfl⟩
  · obtain ⟨_, _, _, _, rfl, _⟩ := h
    rfl
  · obtain ⟨d, L, m, n, rfl, c, b, dq⟩ := h
    refine q_offer c dq (ev_var rfl) (ev_var rfl) fun H1 j oa e1 hjl ho c dq => ?_
    refine q_lookc c dq (ev_var rfl) fun _ H2 e2 c dq => ?_
    have ho3 := ho.ex e2
    refine q_look c dq (ev_var rfl) (ev_Of_school X ho3 (ev_var rfl)) fun H4 i a e4 hf hl ha hs c dq => ?_
    refine q_meth (ev_De_state X c.ob (ev_var rfl)) c.st.st (no_St_take_away _ _) (ea_cons (ev_var rfl) ea_nil) fun H5 e5 => ⟨L, m, oa, m.off j, rfl, c.st.ex e5, b.offs, (ho3.ex e4).ex e5, fun H6 L6 h6 s6 ss6 f6 => ?_⟩
    have c6 := (c.ex e5).of f6 h6 s6
    have hand : Hand A H6 H6 d L6 L6 (m.takeAway (m.off j).number) i a ((m.takeAway (m.off j).number).sch i) := Hand.of c6 (by rw [ss6]; exact ha) hl
    refine h_scS X hand (ev_var rfl) ev_c X.na_Sc_wanted (lk_Sc_wanted _) (pt_Sc_wanted _ _) fun H7 hh => ?_
    have f9 : Fr H4 H7 (dfoot d L) (dfoot d L6) := (Fr.of_ex e5 f6.desk).trans hh.f
    exact s_retL (el_lst (ea_cons (ev_Sc_wanted X hh.hs (ev_var rfl)) (ea_cons (ev_Sc_number X hh.hs (ev_var rfl)) ea_nil)) (by show 2 ≤ 100000; decide)) (dq.fin f9 hh.c)
def sp_De_transfer (K : PySem.W.Frag) (A : Ads) : Sp := fun vs H Q E => ∃ (d : Addr) (L : Lay) (m : M) (n x : Int), vs = [.ref d, .int n, .int x] ∧ DAt A H d L m ∧ Bounds m ∧ DeskQ A E H d L Q (transferM m n x)
theorem ok_De_transfer (X : Tx K mg A) : Okd P w K mg base (L2.CX P w) 5 A.De_transfer ["self", "one", "other"] (sp_De_transfer K A) := by
  obtain ⟨fd_De_look_entries, G_De_look_entries, b_De_look_entries⟩ := ok_De_look_entries (P := P) (w := w) (base := base) X
  obtain ⟨fd_f_refuse_if, G_f_refuse_if, b_f_refuse_if⟩ := ok_f_refuse_if (P := P) (w := w) (base := base) X
  obtain ⟨fd_St_waits, G_St_waits, b_St_waits⟩ := ok_St_waits (P := P) (w := w) (base := base) X
  obtain ⟨fd_St_load, G_St_load, b_St_load⟩ := ok_St_load (P := P) (w := w) (base := base) X
  obtain ⟨fd_De_look_closed, G_De_look_closed, b_De_look_closed⟩ := ok_De_look_closed (P := P) (w := w) (base := base) X
  obtain ⟨fd_De_look_up, G_De_look_up, b_De_look_up⟩ := ok_De_look_up (P := P) (w := w) (base := base) X
  obtain ⟨fd, F⟩ := X.fn_De_transfer
  refine ⟨fd, F.okX sc_De_transfer (fun vs H Q E h => ?_) (fun cdv A' outer s H vs Q E hr h => ⟨_, (pss_cons (ps_set (i := 3) sc_De_transfer.nd rfl (Or.inl rfl) (pe_meth (pv 0) X.cl_De X.m_De_look_up G_De_look_up (hr.mono (by decide)) b_De_look_up .nil passE (pa_cons (pv 1) pa_nil)))
    (pss_cons (ps_set (i := 4) sc_De_transfer.nd rfl (Or.inl rfl) (pe_meth (pv 0) X.cl_De X.m_De_look_up G_De_look_up (hr.mono (by decide)) b_De_look_up .nil passE (pa_cons (pv 2) pa_nil)))
    (pss_cons (ps_expr (pe_call G_f_refuse_if (hr.mono (by decide)) rfl X.g_f_refuse_if X.k_f_refuse_if b_f_refuse_if .nil passE (pa_cons (pe_cmpR op_eq (pv 1) (pv 2) (nomark _)) (pa_cons (pe_un un_neg pe_int) pa_nil))))
    (pss_cons (ps_expr (pe_meth0 (pv 0) X.cl_De X.m_De_look_closed G_De_look_closed (hr.mono (by decide)) b_De_look_closed .nil passE))
    (pss_cons (ps_expr (pe_call G_f_refuse_if (hr.mono (by decide)) rfl X.g_f_refuse_if X.k_f_refuse_if b_f_refuse_if .nil passE (pa_cons (pe_cmpR op_eq (pe_fld (pv 3) rfl) pe_int (nomark _)) (pa_cons (pe_un un_neg pe_int) pa_nil))))
    (pss_cons (ps_expr (pe_call G_f_refuse_if (hr.mono (by decide)) rfl X.g_f_refuse_if X.k_f_refuse_if b_f_refuse_if .nil passE (pa_cons (pe_not (pe_meth (pe_fld (pv 0) rfl) X.cl_St X.m_St_waits G_St_waits (hr.mono (by decide)) b_St_waits .nil pass0 (pa_cons (pv 4) (pa_cons (pe_meth (pe_fld (pv 0) rfl) X.cl_St X.m_St_load G_St_load (hr.mono (by decide)) b_St_load .nil pass0 (pa_cons (pv 4) pa_nil)) pa_nil)))) (pa_cons (pe_un un_neg pe_int) pa_nil))))
    (pss_cons (ps_expr (pe_meth (pv 0) X.cl_De X.m_De_look_entries G_De_look_entries (hr.mono (by decide)) b_De_look_entries .nil passE (pa_cons pe_int pa_nil)))
    (pss_cons (ps_set (i := 5) sc_De_transfer.nd rfl (Or.inl rfl) (pe_ix ix_list (pe_fld (pe_fld (pe_fld (pv 0) rfl) rfl) rfl) pe_int (fun _ _ => rfl)))
    (pss_cons (ps_fldaug (pv 3) pe_int in_sub)
    (pss_cons (ps_fldaug (pv 3) pe_int in_sub)
    (pss_cons (ps_fldaug (pv 3) (pv 5) in_add)
    (pss_cons (ps_fldaug (pv 4) pe_int in_add)
    (pss_cons (ps_fldaug (pv 4) (pv 5) in_add)
    (pss_cons (ps_fldaug (pe_fld (pv 0) rfl) pe_int in_add)
    (pss_one (ps_ret (pe_lst (pa_cons (pe_fld (pv 3) rfl) pa_nil)))))))))))))))))), ?_⟩), F.binds fun _ _ _ _ _ _ us hl => match us, hl with | [_, _, _], _ => rfl⟩
  · obtain ⟨_, _, _, _, _, rfl, _⟩ := h
    rfl
  · obtain ⟨d, L, m, n, x, rfl, c, b, dq⟩ := h
    refine q_look c dq (ev_var rfl) (ev_var rfl) fun H1 i a e1 hf hl ha hs c dq => ?_
    refine q_look c dq (ev_var rfl) (ev_var rfl) fun H2 j a2 e2 hf2 hl2 ha2 hs2 c dq => ?_
    refine q_ref c dq (ev_eqI (ev_var rfl) (ev_var rfl)) (ev_neg ev_c) fun hne H3 e3 c dq => ?_
    refine q_lookc c dq (ev_var rfl) fun _ H4 e4 c dq => ?_
    have hs4 := ((hs.ex e2).ex e3).ex e4
    have hs24 := (hs2.ex e3).ex e4
    refine q_ref c dq (ev_eqI (ev_Sc_has X hs4 (ev_var rfl)) ev_c) (ev_neg ev_c) fun _ H5 e5 c dq => ?_
    have hs25 := hs24.ex e5
    have st := c.st
    refine q_ref c dq (ev_notV (ev_meth (ev_De_state X c.ob (ev_var rfl)) st.st (no_St_waits _ _) (ea_cons (ev_var rfl) (ea_cons (ev_meth (ev_De_state X c.ob (ev_var rfl)) st.st (no_St_load _ _) (ea_cons (ev_var rfl) ea_nil) fun H6 e6 Q' q E' => ⟨L, m, a2, m.sch j, rfl, st.ex e6, b.offs, hs25.ex e6, q⟩) ea_nil)) fun H6 e6 Q' q E' => ⟨L, m, a2, m.sch j, m.loadS (m.sch j), rfl, st.ex e6, hs25.ex e6, q⟩)) (ev_neg ev_c) fun _ H6 e6 c dq => ?_
    refine q_looke c dq (ev_var rfl) ev_c fun H7 e7 c dq => ?_
    have st := c.st
    refine q_asg (ev_ix0 (ev_Ru_fee X st.bd.ru.ob (ev_St_rules X st.st (ev_De_state X c.ob (ev_var rfl)))) st.bd.ru.fee) fun H8 e8 => ?_
    have c8 := c.ex e8
    have dq8 := dq.ex e8
    have hij : i ≠ j := fun z => by
      have q1 := (find_lt hf).2
      have q2 := (find_lt hf2).2
      rw [z, q2] at q1
      exact of_decide_eq_false hne q1.symm
    refine h_scS X (Hand.of c8 ha hl) (ev_var rfl) ev_c X.na_Sc_has (lk_Sc_has _) (pt_Sc_has _ _) fun H9 hh => ?_
    refine h_scS X hh (ev_var rfl) ev_c X.na_Sc_wanted (lk_Sc_wanted _) (pt_Sc_wanted _ _) fun H10 hh => ?_
    refine h_scA X hh (ev_var rfl) (ev_var rfl) X.na_Sc_given (lk_Sc_given _) (pt_Sc_given _ _) fun H11 hh => ?_
    have f1 := hh.f
    have c1 := hh.c
    generalize hm1 : m.putS i { number := (m.sch i).number, wanted := (m.sch i).wanted - 1, has := (m.sch i).has - 1, judges := (m.sch i).judges, paid := (m.sch i).paid, fees := (m.sch i).fees, given := (m.sch i).given + m.rules.fee, fines := (m.sch i).fines, out := (m.sch i).out } = m1 at c1
    have hl21 : j < m1.schools.length := by
      rw [← hm1]
      show j < (m.schools.set i _).length
      rw [List.length_set]
      exact hl2
    refine h_scA X (Hand.of c1 ha2 hl21) (ev_var rfl) ev_c X.na_Sc_has (lk_Sc_has _) (pt_Sc_has _ _) fun H12 hh => ?_
    refine h_scA X hh (ev_var rfl) (ev_var rfl) X.na_Sc_fees (lk_Sc_fees _) (pt_Sc_fees _ _) fun H13 hh => ?_
    refine h_ent X hh (ev_De_state X hh.c.ob (ev_var rfl)) ev_c fun H14 hh => ?_
    have f14 := f1.trans hh.f
    subst hm1
    have hlF : i < (M.putS { m.putS i { number := (m.sch i).number, wanted := (m.sch i).wanted - 1, has := (m.sch i).has - 1, judges := (m.sch i).judges, paid := (m.sch i).paid, fees := (m.sch i).fees, given := (m.sch i).given + m.rules.fee, fines := (m.sch i).fines, out := (m.sch i).out } with entries := m.entries + 2 } j MS.zero).schools.length := by
      show i < ((m.schools.set i _).set j _).length
      rw [List.length_set, List.length_set]
      exact hl
    obtain ⟨a', ha', hs'⟩ := hh.c.st.sch_get (i := i) (by
      show i < ((m.schools.set i _).set j _).length
      rw [List.length_set, List.length_set]
      exact hl)
    rw [ha] at ha'
    cases ha'
    refine s_retL (el_lst (ea_cons (ev_is (ev_Sc_has X hs' (ev_var rfl)) (v := _) (w := .int ((m.sch i).has - 1)) ?_) ea_nil) (by show 1 ≤ 100000; decide)) (dq8.fin f14 hh.c)
    refine congrArg V.int ?_
    unfold M.sch
    show (((m.schools.set i _).set j _).getD i MS.zero).has = _
    rw [List.getD_eq_getElem?_getD, List.getElem?_set_ne (Ne.symm hij), List.getElem?_set_self hl]
    rfl
/-! ### the desk made anew -/
theorem make_St {σ : L2.St} {H : Hp} {E E' : XK} {Q : VK} (k : ∀ H' L, StAt A H' L M.fresh → Ex H H' → (∀ b ∈ foot L, H b = none) → Q (.ref L.st) H') : tMake A.St (sp_St_init K A) [] E (tCons (tMake A.Ru (sp_Ru_init K A) [] E' tNil) tNil) σ H Q :=
  make_Ru (K := K) (A := A) (σ := σ) (H := H) (E := E') (Q := fun x H1 => tNil σ H1 fun xs H2 => ∀ p dx, H2 p = none → H2 dx = none → dx ≠ p → sp_St_init K A (.ref p :: ((x :: xs) ++ [])) (upd (upd H2 dx (.own p)) p (.ins A.St dx [])) (fun v H3 => v = .non ∧ Q (.ref p) H3) E) fun ru H1 rl hru e1 hr hrl st dx h1 h2 h3 => by
    have nru : ru ≠ st := by obtain ⟨d0, o0⟩ := hr.ob; exact ne_of_none o0 h1
    have nrd : ru ≠ dx := by obtain ⟨d0, o0⟩ := hr.ob; exact ne_of_none o0 h2
    have nls : st ∉ rl := fun z => by obtain ⟨xs, hx⟩ := hr.lst z; rw [hx] at h1; cases h1
    have nld : dx ∉ rl := fun z => by obtain ⟨xs, hx⟩ := hr.lst z; rw [hx] at h2; cases h2
    refine ⟨st, dx, ru, rl, MR.fresh, rfl, upd_same, (hr.off nrd nld).off nru nls, Ne.symm nru, nls, fun H' L h' e1' e2' e3' e4' e5' f1 f2 kp => ⟨rfl, ?_⟩⟩
    have back : ∀ b, upd (upd H1 dx (.own st)) st (.ins A.St dx []) b = none → H b = none := fun b hb => by
      have n1 : b ≠ st := fun z => by rw [z, upd_same] at hb; cases hb
      rw [upd_ne n1] at hb
      have n2 : b ≠ dx := fun z => by rw [z, upd_same] at hb; cases hb
      rw [upd_ne n2] at hb
      exact fresh_back e1 hb
    have hst0 : H st = none := fresh_back e1 h1
    rw [← e1']
    refine k H' L h' (fun b o hb => ?_) fun b hb => ?_
    · have hb1 := e1 b o hb
      have n1 : b ≠ st := ne_of_none hb1 h1
      have n2 : b ≠ dx := ne_of_none hb1 h2
      refine kp b o n1 ?_
      rw [upd_ne n1, upd_ne n2]
      exact hb1
    · rcases mem_foot.mp hb with q | q
      · rw [q, e1']; exact hst0
      · rcases mem_bfoot.mp q with q | q | q | q | q | q
        · rw [q, e2']; exact hru
        · rw [q]; exact back _ f1
        · rw [q]; exact back _ f2
        · rw [e3'] at q; exact hrl b q
        · rw [e4'] at q; cases q
        · rw [e5'] at q; cases q
def sp_De_init (K : PySem.W.Frag) (A : Ads) : Sp := fun vs H Q _ => ∃ (p dx : Addr), vs = [.ref p] ∧ H p = some (.ins A.De dx []) ∧ ∀ H' L, DAt A H' p L M.fresh → Kp p H H' → (∀ b ∈ foot L, H b = none) → Q .non H'
theorem ok_De_init (X : Tx K mg A) : Okd P w K mg base CX0 3 A.De_init ["self"] (sp_De_init K A) := by
  obtain ⟨fd_St_init, G_St_init, b_St_init⟩ := ok_St_init (P := P) (w := w) (base := base) X
  obtain ⟨fd_Ru_init, G_Ru_init, b_Ru_init⟩ := ok_Ru_init (P := P) (w := w) (base := base) X
  obtain ⟨fd, F⟩ := X.fn_De_init
  refine ⟨fd, F.ok sc_De_init (fun vs H Q E h => ?_) (fun cdv A' outer s H vs Q E hr h => ⟨_, (pss_one (ps_fld (pv 0) (pe_make X.mk_St G_St_init (hr.mono (by decide)) rfl X.g_St b_St_init .nil pass0 (pa_cons (pe_make0 X.mk_Ru G_Ru_init (hr.mono (by decide)) rfl X.g_Ru b_Ru_init .nil pass0) pa_nil)) rfl)), ?_⟩), F.binds fun _ _ _ _ _ _ us hl => match us, hl with | [_], _ => rfl⟩
  · obtain ⟨_, _, rfl, _⟩ := h
    rfl
  · obtain ⟨p, dx, rfl, hp, k⟩ := h
    refine make_St fun H1 L h1 e1 hf => ?_
    have hp1 := e1 _ _ hp
    refine ⟨.ref p, rfl, p, A.De, dx, [], rfl, hp1, X.cl_De, X.na_De_state, by show 0 < 1000; decide, ?_⟩
    have np : p ∉ foot L := fun z => by rw [hf p z] at hp; cases hp
    exact k _ L ⟨⟨dx, upd_same⟩, ⟨h1.st.off fun z => np (by rw [← z]; exact foot_st L), h1.bd.off fun z => np (mem_foot.mpr (.inr z))⟩, np⟩ (kp_write e1) hf
theorem q_newSt {σ : L2.St} {H : Hp} {E E' : XK} {D : Ends} {tz : TS} {i : Nat} (k : ∀ H1 L, StAt A H1 L M.fresh → Ex H H1 → (∀ b ∈ foot L, H b = none) → (tVar i) σ H1 (fun x H2 => ∃ a C dx fs, x = .ref a ∧ H2 a = some (.ins C dx fs) ∧ Cls K C ∧ NoAttr K C "state" ∧ fs.length < 1000 ∧ tz D σ (upd H2 a (.ins C dx (putF "state" (.ref L.st) fs))))) :
    tSeq (sFld K (tVar i) (tMake A.St (sp_St_init K A) [] E (tCons (tMake A.Ru (sp_Ru_init K A) [] E' tNil) tNil)) "state") tz D σ H :=
  make_St (K := K) (A := A) (σ := σ) (H := H) (E := E) (E' := E') (Q := fun y H1 => (tVar i) σ H1 fun x H2 => ∃ a C dx fs, x = .ref a ∧ H2 a = some (.ins C dx fs) ∧ Cls K C ∧ NoAttr K C "state" ∧ fs.length < 1000 ∧ tz D σ (upd H2 a (.ins C dx (putF "state" y fs)))) k
def sp_De_clear (K : PySem.W.Frag) (A : Ads) : Sp := fun vs H Q E => ∃ (d : Addr) (L : Lay) (m : M) (E' : XK), vs = [.ref d] ∧ DAt A H d L m ∧ DeskQ A E' H d L Q (.ok (M.fresh, [0]))
theorem ok_De_clear (X : Tx K mg A) : Okd P w K mg base CX0 3 A.De_clear ["self"] (sp_De_clear K A) := by
  obtain ⟨fd_St_init, G_St_init, b_St_init⟩ := ok_St_init (P := P) (w := w) (base := base) X
  obtain ⟨fd_Ru_init, G_Ru_init, b_Ru_init⟩ := ok_Ru_init (P := P) (w := w) (base := base) X
  obtain ⟨fd, F⟩ := X.fn_De_clear
  refine ⟨fd, F.ok sc_De_clear (fun vs H Q E h => ?_) (fun cdv A' outer s H vs Q E hr h => ⟨_, (pss_cons (ps_fld (pv 0) (pe_make X.mk_St G_St_init (hr.mono (by decide)) rfl X.g_St b_St_init .nil pass0 (pa_cons (pe_make0 X.mk_Ru G_Ru_init (hr.mono (by decide)) rfl X.g_Ru b_Ru_init .nil pass0) pa_nil)) rfl)
    (pss_one (ps_ret (pe_lst (pa_cons pe_int pa_nil))))), ?_⟩), F.binds fun _ _ _ _ _ _ us hl => match us, hl with | [_], _ => rfl⟩
  · obtain ⟨_, _, _, _, rfl, _⟩ := h
    rfl
  · obtain ⟨d, L, m, E', rfl, c, dq⟩ := h
    refine q_newSt fun H1 L1 h1 e1 hf => ?_
    obtain ⟨dx, hd⟩ := c.ob
    have hd1 := e1 _ _ hd
    refine ⟨.ref d, rfl, d, A.De, dx, _, rfl, hd1, X.cl_De, X.na_De_state, by show 1 < 1000; decide, ?_⟩
    have nd : d ∉ foot L1 := fun z => by rw [hf d z] at hd; cases hd
    rw [pt_De_state]
    have c1 : DAt A (upd H1 d (.ins A.De dx (deF L1.st))) d L1 M.fresh := ⟨⟨dx, upd_same⟩, ⟨h1.st.off fun z => nd (by rw [← z]; exact foot_st L1), h1.bd.off fun z => nd (mem_foot.mpr (.inr z))⟩, nd⟩
    have f1 : Fr H (upd H1 d (.ins A.De dx (deF L1.st))) (dfoot d L) (dfoot d L1) := Fr.exWrite e1 List.mem_cons_self fun b hb => by
      rcases List.mem_cons.mp hb with q | q
      · exact .inl (q ▸ List.mem_cons_self)
      · exact .inr (hf b q)
    exact s_retL (el_lst (ea_cons ev_c ea_nil) (by show 1 ≤ 100000; decide)) (dq.fin f1 c1)
/-! ### a school enters -/
theorem foot_newSs {L : Lay} {p b : Addr} (h : b ∈ foot { L with ss := L.ss ++ [p] }) : b ∈ foot L ∨ b = p := by
  rcases mem_foot.mp h with e | e
  · exact .inl (mem_foot.mpr (.inl e))
  · rcases mem_bfoot.mp e with q | q | q | q | q | q
    · exact .inl (mem_foot.mpr (.inr (mem_bfoot.mpr (.inl q))))
    · exact .inl (mem_foot.mpr (.inr (mem_bfoot.mpr (.inr (.inl q)))))
    · exact .inl (mem_foot.mpr (.inr (mem_bfoot.mpr (.inr (.inr (.inl q))))))
    · exact .inl (mem_foot.mpr (.inr (mem_bfoot.mpr (.inr (.inr (.inr (.inl q)))))))
    · have q' : b ∈ L.ss ++ [p] := q
      rcases List.mem_append.mp q' with r | r
      · exact .inl (foot_ss r)
      · exact .inr (by simpa using r)
    · exact .inl (foot_of q)
def sp_De_enter (K : PySem.W.Frag) (A : Ads) : Sp := fun vs H Q E => ∃ (d : Addr) (L : Lay) (m : M) (n x y : Int), vs = [.ref d, .int n, .int x, .int y] ∧ DAt A H d L m ∧ Bounds m ∧ DeskQ A E H d L Q (enterM m n x y)
theorem ok_De_enter (X : Tx K mg A) : Okd P w K mg base (L2.CX P w) 5 A.De_enter ["self", "number", "wanted", "judges"] (sp_De_enter K A) := by
  obtain ⟨fd_Sc_init, G_Sc_init, b_Sc_init⟩ := ok_Sc_init (P := P) (w := w) (base := base) X
  obtain ⟨fd_f_refuse_if, G_f_refuse_if, b_f_refuse_if⟩ := ok_f_refuse_if (P := P) (w := w) (base := base) X
  obtain ⟨fd_St_school_at, G_St_school_at, b_St_school_at⟩ := ok_St_school_at (P := P) (w := w) (base := base) X
  obtain ⟨fd_De_look_closed, G_De_look_closed, b_De_look_closed⟩ := ok_De_look_closed (P := P) (w := w) (base := base) X
  obtain ⟨fd, F⟩ := X.fn_De_enter
  refine ⟨fd, F.okX sc_De_enter (fun vs H Q E h => ?_) (fun cdv A' outer s H vs Q E hr h => ⟨_, (pss_cons (ps_expr (pe_call G_f_refuse_if (hr.mono (by decide)) rfl X.g_f_refuse_if X.k_f_refuse_if b_f_refuse_if .nil passE (pa_cons (pe_or (pe_not (pe_chain op_le op_le pe_int (pv 1) pe_int)) (pe_or (pe_not (pe_chain op_le op_le pe_int (pv 2) pe_int)) (pe_one (pe_not (pe_chain op_le op_le pe_int (pv 3) pe_int))))) (pa_cons (pe_un un_neg pe_int) pa_nil))))
    (pss_cons (ps_expr (pe_meth0 (pv 0) X.cl_De X.m_De_look_closed G_De_look_closed (hr.mono (by decide)) b_De_look_closed .nil passE))
    (pss_cons (ps_expr (pe_call G_f_refuse_if (hr.mono (by decide)) rfl X.g_f_refuse_if X.k_f_refuse_if b_f_refuse_if .nil passE (pa_cons (pe_cmpR op_notN (pe_meth (pe_fld (pv 0) rfl) X.cl_St X.m_St_school_at G_St_school_at (hr.mono (by decide)) b_St_school_at .nil pass0 (pa_cons (pv 1) pa_nil)) pe_non (nomark _)) (pa_cons (pe_un un_neg pe_int) pa_nil))))
    (pss_cons (ps_set (i := 4) sc_De_enter.nd rfl (Or.inl rfl) (pe_callB call_len_seq (by rfl) X.b_len PySem.boot_len (pa_cons (pe_fld (pe_fld (pv 0) rfl) rfl) pa_nil)))
    (pss_cons (ps_expr (pe_call G_f_refuse_if (hr.mono (by decide)) rfl X.g_f_refuse_if X.k_f_refuse_if b_f_refuse_if .nil passE (pa_cons (pe_cmpR op_ge (pv 4) (pe_gi rfl X.c_MOST_SCHOOLS) (nomark _)) (pa_cons (pe_un un_neg pe_int) pa_nil))))
    (pss_cons (ps_expr (pe_bm PySem.F.plainAttrs_list PySem.F.slot_list_append PySem.F.type_list_append mt_append (pe_fld (pe_fld (pv 0) rfl) rfl) (pa_cons (pe_make X.mk_Sc G_Sc_init (hr.mono (by decide)) rfl X.g_Sc b_Sc_init .nil pass0 (pa_cons (pv 1) (pa_cons (pv 2) (pa_cons (pv 3) pa_nil)))) pa_nil)))
    (pss_one (ps_ret (pe_lst (pa_cons (pv 4) pa_nil)))))))))), ?_⟩), F.binds fun _ _ _ _ _ _ us hl => match us, hl with | [_, _, _, _], _ => rfl⟩
  · obtain ⟨_, _, _, _, _, _, rfl, _⟩ := h
    rfl
  · obtain ⟨d, L, m, n, x, y, rfl, c, b, dq⟩ := h
    have dq' : DeskQ A E H d L Q (refuse (outside 1 999 n || (outside 1 20 x || outside 0 99 y)) (-1) <| refuse m.closed (-4) <| refuse (m.find n).isSome (-3) <| refuse (decide (30 ≤ (m.schools.length : Int))) (-9) <| .ok ({ m with schools := m.schools ++ [⟨n, x, 0, y, 0, 0, 0, 0, 0⟩] }, [(m.schools.length : Int)])) := by
      rw [← Bool.or_assoc]
      exact dq
    refine q_ref c dq' (ev_orV (ev_outside (ev_var rfl)) fun _ => ev_orV (ev_outside (ev_var rfl)) fun _ => ev_outside (ev_var rfl)) (ev_neg ev_c) fun _ H1 e1 c dq => ?_
    refine q_lookc c dq (ev_var rfl) fun _ H2 e2 c dq => ?_
    have st := c.st
    refine q_ref c dq (ev_is (ev_notN (ev_meth (ev_De_state X c.ob (ev_var rfl)) st.st (no_St_school_at _ _) (ea_cons (ev_var rfl) ea_nil) fun H3 e3 Q' q E' => ⟨L, m, n, rfl, st.ex e3, q⟩)) (by
      cases m.find n with
      | none => rfl
      | some i => rfl)) (ev_neg ev_c) fun _ H3 e3 c dq => ?_
    have st := c.st
    have hlen : (refs L.ss).length = m.schools.length := by unfold refs; rw [List.length_map]; exact st.bd.ss.len
    refine q_asg (v := .int (m.schools.length : Int)) (ev_is (ev_len (ev_St_schools X st.st (ev_De_state X c.ob (ev_var rfl))) (SqL.of st.bd.sl)) (by rw [hlen])) fun H4 e4 => ?_
    refine q_ref (c.ex e4) (dq.ex e4) (ev_i0 (ev_var rfl) ev_c) (ev_neg ev_c) fun _ H5 e5 c dq => ?_
    have st := c.st
    refine q_appM (C := A.Sc) (fs := msF ⟨n, x, 0, y, 0, 0, 0, 0, 0⟩) st.bd.sl (ev_St_schools X st.st (ev_De_state X c.ob (ev_var rfl))) (em_make (ea_cons (ev_var rfl) (ea_cons (ev_var rfl) (ea_cons (ev_var rfl) ea_nil))) fun p dx H6 Q' hp q => ⟨p, dx, n, x, y, rfl, hp, q⟩) (by rw [hlen]; have := b.few; omega) fun p H6 hp e6 hs => ?_
    have np : p ∉ foot L := st.nofoot hp
    have h7 := (st.ex e6).addSch hs fun z => np (foot_ss z)
    rw [refs_snoc]
    have f7 : Fr H5 (upd H6 L.sl (.lst (refs (L.ss ++ [p])))) (foot L) (foot { L with ss := L.ss ++ [p] }) := Fr.exWrite e6 (foot_sl L) fun b hb => by
      rcases foot_newSs hb with q | q
      · exact .inl q
      · exact .inr (q ▸ hp)
    have c7 := c.of f7 h7 rfl
    exact s_retL (el_lst (ea_cons (ev_var rfl) ea_nil) (by show 1 ≤ 100000; decide)) (dq.fin f7.desk c7)
end
end Eh

-- EhW12
set_option Elab.async false
set_option linter.all false
set_option maxRecDepth 100000
set_option maxHeartbeats 4000000
namespace Eh
open PySem PySem.Spec PyProof.Rows L2 EhR EhZ Evl
/-! ### lists of rows -/
structure LLI (H : Hp) (as : List Addr) (rs : List (List Int)) : Prop where
  len : as.length = rs.length
  ob : ∀ (i : Nat) (a : Addr) (r : List Int), as[i]? = some a → rs[i]? = some r → H a = some (.lst (iV r))
theorem LLI.ex {H H' : Hp} {as : List Addr} {rs : List (List Int)} (h : LLI H as rs) (e : Ex H H') : LLI H' as rs := ⟨h.len, fun i a w h1 h2 => e a _ (h.ob i a w h1 h2)⟩
theorem LLI.off {H : Hp} {as : List Addr} {rs : List (List Int)} {b : Addr} {o : HO} (h : LLI H as rs) (hb : b ∉ as) : LLI (upd H b o) as rs := ⟨h.len, fun i a w h1 h2 => by
  have n : a ≠ b := fun z => hb (z ▸ List.mem_of_getElem? h1)
  rw [upd_ne n]
  exact h.ob i a w h1 h2⟩
theorem LLI.snoc {H : Hp} {as : List Addr} {rs : List (List Int)} {a : Addr} {r : List Int} (h : LLI H as rs) (ha : H a = some (.lst (iV r))) : LLI H (as ++ [a]) (rs ++ [r]) := ⟨by rw [List.length_append, List.length_append, h.len]; rfl, fun i b v h1 h2 => by
  by_cases c : i < as.length
  · rw [List.getElem?_append_left c] at h1
    rw [List.getElem?_append_left (by rw [← h.len]; exact c)] at h2
    exact h.ob i b v h1 h2
  · rw [List.getElem?_append_right (by omega)] at h1
    rw [List.getElem?_append_right (by rw [← h.len]; omega), ← h.len] at h2
    have e0 : i - as.length = 0 := by
      have : i - as.length < 1 := (List.getElem?_eq_some_iff.mp h1).1
      omega
    rw [e0] at h1 h2
    cases h1
    cases h2
    exact ha⟩
theorem iV_len (l : List Int) : (iV l).length = l.length := by unfold iV; rw [List.length_map]
theorem iV_app (l k : List Int) : iV l ++ iV k = iV (l ++ k) := by unfold iV; rw [List.map_append]
theorem refs_get {as : List Addr} {i : Nat} {x : V} (h : (refs as)[i]? = some x) : ∃ a, as[i]? = some a ∧ x = V.ref a := by
  unfold refs at h
  rw [List.getElem?_map] at h
  cases q : as[i]? with
  | none => rw [q] at h; cases h
  | some a => rw [q] at h; exact ⟨a, rfl, (Option.some.inj h).symm⟩
theorem refs_len (as : List Addr) : (refs as).length = as.length := by unfold refs; rw [List.length_map]
def rowsTo (rs : List (List Int)) (i : Nat) : List Int := (rs.take i).flatMap fun r => (r.length : Int) :: r
theorem rowsTo_succ {rs : List (List Int)} {i : Nat} {r : List Int} (h : rs[i]? = some r) : rowsTo rs (i + 1) = rowsTo rs i ++ ((r.length : Int) :: r) := by
  unfold rowsTo
  rw [List.take_succ, h, List.flatMap_append]
  show _ ++ ([r].flatMap fun r => (r.length : Int) :: r) = _
  rw [List.flatMap_singleton]
section
variable {P : Program} {w : World} {K : PySem.W.Frag} {mg : Str → Option Value} {base : Heap} {A : Ads}
def sp_f_with_rows (K : PySem.W.Frag) (A : Ads) : Sp := fun vs H Q _ => ∃ (v : Int) (p : Addr) (as : List Addr) (rs : List (List Int)), vs = [.int v, .ref p] ∧ H p = some (.lst (refs as)) ∧ LLI H as rs ∧ rs.length ≤ 100 ∧ (∀ r ∈ rs, r.length ≤ 1000) ∧ RetL (iV (withRows v rs)) H Q
theorem ok_f_with_rows (X : Tx K mg A) : Okd P w K mg base CX0 1 A.f_with_rows ["value", "rows"] (sp_f_with_rows K A) := by
  obtain ⟨fd, F⟩ := X.fn_f_with_rows
  refine ⟨fd, F.ok sc_f_with_rows (fun vs H Q E h => ?_) (fun cdv A' outer s H vs Q E hr h => ⟨_, (pss_cons (ps_if (pt_cmpR op_eq (pe_callB call_len_seq (by rfl) X.b_len PySem.boot_len (pa_cons (pv 1) pa_nil)) pe_int (nomark _))
      (pss_one (ps_ret (pe_op op_cat (pe_lst (pa_cons (pv 0) pa_nil)) (pe_ix ix_list (pv 1) pe_int (fun _ _ => rfl)))))
      pss_nil)
    (pss_cons (ps_set (i := 2) sc_f_with_rows.nd rfl (Or.inl rfl) (pe_lst (pa_cons (pv 0) pa_nil)))
    (pss_cons (ps_for (PassesOwn.never) rfl (pi_list (pv 1)) (pg_name (i := 3) sc_f_with_rows.nd rfl (Or.inl rfl))
      (pss_one (ps_set (i := 2) sc_f_with_rows.nd rfl (Or.inl rfl) (pe_op op_cat (pe_op op_cat (pv 2) (pe_lst (pa_cons (pe_callB call_len_seq (by rfl) X.b_len PySem.boot_len (pa_cons (pv 3) pa_nil)) pa_nil))) (pv 3)))))
    (pss_one (ps_ret (pv 2)))))), ?_⟩), F.binds fun _ _ _ _ _ _ us hl => match us, hl with | [_, _], _ => rfl⟩
  · obtain ⟨_, _, _, _, rfl, _⟩ := h
    rfl
  · obtain ⟨v, p, as, rs, rfl, hp, ll, hz, hz2, k⟩ := h
    have hl := ll.len
    unfold withRows at k
    refine q_when (et_test (ev_eqI (ev_is (ev_len (ev_var rfl) (SqL.of hp)) (congrArg (fun n : Nat => V.int (n : Int)) ((refs_len as).trans hl))) ev_c)) (fun hb H1 e1 => ?_) (fun hb H1 e1 => ?_)
    · have h1 : rs.length = 1 := by have := of_decide_eq_true hb; omega
      rw [if_pos h1] at k
      obtain ⟨r, rfl⟩ : ∃ r, rs = [r] := by
        match rs, h1 with
        | [r], _ => exact ⟨r, rfl⟩
      obtain ⟨a, rfl⟩ : ∃ a, as = [a] := by
        match as, hl with
        | [a], _ => exact ⟨a, rfl⟩
      have ha := ll.ob 0 a r rfl rfl
      have hr := hz2 r List.mem_cons_self
      exact s_retL (el_cat (ys := iV r) (x_of_L (el_lst (ea_cons (ev_var rfl) ea_nil) (by show 1 ≤ 100000; decide))) (x_of (ev_ix0 (ev_var rfl) (e1 _ _ hp)) (e1 _ _ ha)) (by rw [iV_len]; show 1 + _ ≤ _; omega)) fun p2 H2 hp2 e2 l2 => k p2 H2 (fresh_back e1 hp2) (e1.trans e2) l2
    · have h1 : ¬ rs.length = 1 := by have := of_decide_eq_false hb; omega
      rw [if_neg h1] at k
      refine q_asgL (el_lst (ea_cons (ev_var rfl) ea_nil) (by show 1 ≤ 100000; decide)) fun q H2 hq e2 l2 => ?_
      have f2 := e1.trans e2
      refine q_forLn (ev_var rfl) (SqL.of (f2 _ _ hp)) (fun i σ' H' => (∃ q u, σ' = [some (.int v), some (.ref p), some (.ref q), u] ∧ H q = none ∧ H' q = some (.lst (iV (v :: rowsTo rs i)))) ∧ Ex H H' ∧ (rowsTo rs i).length ≤ 1001 * i) (fun H3 e3 => ⟨⟨q, _, rfl, fresh_back e1 hq, e3 _ _ l2⟩, f2.trans e3, Nat.zero_le _⟩) (fun i σ' H' _ z => SqL.of (z.2.1 _ _ hp)) (fun i x σ' H' hx z => ?_) fun σ' H' z => ?_
      · obtain ⟨⟨q, u, rfl, hq, lq⟩, e, hlen⟩ := z
        obtain ⟨a, ha, rfl⟩ := refs_get hx
        obtain ⟨r, hr⟩ := get_len hl ha
        have har := e _ _ (ll.ob i a r ha hr)
        have hr2 := hz2 r (List.mem_of_getElem? hr)
        have hi : i < 100 := by have := (List.getElem?_eq_some_iff.mp hr).1; omega
        refine s_asgL (el_cat (x_of_L (el_cat (x_of (ev_var rfl) lq) (x_of_L (el_lst (ea_cons (ev_is (ev_len (ev_var rfl) (SqL.of har)) (congrArg (fun n : Nat => V.int (n : Int)) (iV_len r))) ea_nil) (by show 1 ≤ 100000; decide))) (by rw [iV_len]; show (rowsTo rs i).length + 1 + 1 ≤ _; omega))) (x_of (ev_var rfl) har) (by rw [List.length_append, iV_len, iV_len]; show (rowsTo rs i).length + 1 + 1 + _ ≤ _; omega)) fun q2 H3 hq2 e3 l3 => ?_
        refine ⟨⟨q2, _, rfl, fresh_back e hq2, ?_⟩, e.trans e3, ?_⟩
        · rw [l3, rowsTo_succ hr]
          have : iV (v :: rowsTo rs i) ++ [V.int (r.length : Int)] ++ iV r = iV (v :: (rowsTo rs i ++ ((r.length : Int) :: r))) := by
            show iV (v :: rowsTo rs i) ++ iV [(r.length : Int)] ++ iV r = _
            rw [iV_app, iV_app]
            simp
          rw [this]
        · rw [rowsTo_succ hr, List.length_append, List.length_cons]
          omega
      · obtain ⟨⟨q, u, rfl, hq, lq⟩, e, hlen⟩ := z
        have ea : rowsTo rs (refs as).length = rs.flatMap fun r => (r.length : Int) :: r := by
          unfold rowsTo
          rw [refs_len, hl, List.take_length]
        rw [ea] at lq
        exact s_ret (ev_var rfl) fun H3 e3 => k q H3 hq (e.trans e3) (e3 _ _ lq)
/-! ### what is told -/
def sp_De_counts (K : PySem.W.Frag) (A : Ads) : Sp := fun vs H Q _ => ∃ (d : Addr) (L : Lay) (m : M), vs = [.ref d] ∧ DAt A H d L m ∧ Bounds m ∧ RetL (iV (countsM m)) H Q
theorem ok_De_counts (X : Tx K mg A) : Okd P w K mg base CX0 2 A.De_counts ["self"] (sp_De_counts K A) := by
  obtain ⟨fd_Ru_percent, G_Ru_percent, b_Ru_percent⟩ := ok_Ru_percent (P := P) (w := w) (base := base) X
  obtain ⟨fd_St_taken, G_St_taken, b_St_taken⟩ := ok_St_taken (P := P) (w := w) (base := base) X
  obtain ⟨fd, F⟩ := X.fn_De_counts
  refine ⟨fd, F.ok sc_De_counts (fun vs H Q E h => ?_) (fun cdv A' outer s H vs Q E hr h => ⟨_, (pss_cons (ps_set (i := 1) sc_De_counts.nd rfl (Or.inl rfl) (pe_fld (pv 0) rfl))
    (pss_cons (ps_set (i := 2) sc_De_counts.nd rfl (Or.inl rfl) (pe_lst (pa_cons (pe_fld (pv 1) rfl) (pa_cons (pe_callB call_len_seq (by rfl) X.b_len PySem.boot_len (pa_cons (pe_fld (pv 1) rfl) pa_nil)) (pa_cons (pe_meth0 (pv 1) X.cl_St X.m_St_taken G_St_taken (hr.mono (by decide)) b_St_taken .nil pass0) (pa_cons (pe_callB call_len_seq (by rfl) X.b_len PySem.boot_len (pa_cons (pe_fld (pv 1) rfl) pa_nil)) (pa_cons (pe_fld (pv 1) rfl) (pa_cons (pe_callTy call_int1 (by rfl) X.b_int (by decide +kernel) (pa_cons (pe_fld (pv 1) rfl) pa_nil)) pa_nil))))))))
    (pss_one (ps_ret (pe_op op_cat (pv 2) (pe_lst (pa_cons (pe_meth (pe_fld (pv 1) rfl) X.cl_Ru X.m_Ru_percent G_Ru_percent (hr.mono (by decide)) b_Ru_percent .nil pass0 (pa_cons (pe_fld (pv 1) rfl) pa_nil)) (pa_cons (pe_fld (pv 1) rfl) pa_nil)))))))), ?_⟩), F.binds fun _ _ _ _ _ _ us hl => match us, hl with | [_], _ => rfl⟩
  · obtain ⟨_, _, _, rfl, _⟩ := h
    rfl
  · obtain ⟨d, L, m, rfl, c, b, k⟩ := h
    refine q_asg (ev_De_state X c.ob (ev_var rfl)) fun H1 e1 => ?_
    have st := (c.ex e1).st
    have hl1 : (refs L.ss).length = m.schools.length := (refs_len _).trans st.bd.ss.len
    have hl2 : (refs L.os).length = m.offers.length := (refs_len _).trans st.bd.os.len
    refine q_asgL (el_lst (ea_cons (ev_St_day X st.st (ev_var rfl)) (ea_cons (ev_is (ev_len (ev_St_schools X st.st (ev_var rfl)) (SqL.of st.bd.sl)) (congrArg (fun n : Nat => V.int (n : Int)) hl1)) (ea_cons (ev_meth (ev_var rfl) st.st (no_St_taken _ _) ea_nil fun H2 e2 Q' q E' => ⟨L, m, rfl, st.ex e2, b.few, q⟩) (ea_cons (ev_is (ev_len (ev_St_offers X st.st (ev_var rfl)) (SqL.of st.bd.ol)) (congrArg (fun n : Nat => V.int (n : Int)) hl2)) (ea_cons (ev_St_made X st.st (ev_var rfl)) (ea_cons (ev_intB (ev_St_is_closed X st.st (ev_var rfl))) ea_nil)))))) (by show 6 ≤ 100000; decide)) fun p H2 hp e2 l2 => ?_
    have st2 := st.ex e2
    exact s_retL (el_cat (x_of (ev_var rfl) l2) (x_of_L (el_lst (ea_cons (ev_meth (ev_St_rules X st2.st (ev_var rfl)) st2.bd.ru.ob (no_Ru_percent _) (ea_cons (ev_St_day X st2.st (ev_var rfl)) ea_nil) fun H3 e3 Q' q E' => ⟨L.ru, L.rl, m.rules, m.day, rfl, st2.bd.ru.ex e3, ⟨b.back.1, b.back.2.1⟩, q⟩) (ea_cons (ev_St_entries X st2.st (ev_var rfl)) ea_nil)) (by show 2 ≤ 100000; decide))) (by show 6 + 2 ≤ 10000000; decide)) fun p2 H3 hp2 e3 l3 => k p2 H3 (fresh_back (e1.trans e2) hp2) ((e1.trans e2).trans e3) l3
def sp_De_school_told (K : PySem.W.Frag) (A : Ads) : Sp := fun vs H Q E => ∃ (d : Addr) (L : Lay) (m : M) (n : Int), vs = [.ref d, .int n] ∧ DAt A H d L m ∧ Bounds m ∧ DeskQ A E H d L Q (schoolM m n)
theorem ok_De_school_told (X : Tx K mg A) : Okd P w K mg base (L2.CX P w) 5 A.De_school_told ["self", "number"] (sp_De_school_told K A) := by
  obtain ⟨fd_St_standing, G_St_standing, b_St_standing⟩ := ok_St_standing (P := P) (w := w) (base := base) X
  obtain ⟨fd_Ru_owed, G_Ru_owed, b_Ru_owed⟩ := ok_Ru_owed (P := P) (w := w) (base := base) X
  obtain ⟨fd_De_look_up, G_De_look_up, b_De_look_up⟩ := ok_De_look_up (P := P) (w := w) (base := base) X
  obtain ⟨fd, F⟩ := X.fn_De_school_told
  refine ⟨fd, F.okX sc_De_school_told (fun vs H Q E h => ?_) (fun cdv A' outer s H vs Q E hr h => ⟨_, (pss_cons (ps_set (i := 2) sc_De_school_told.nd rfl (Or.inl rfl) (pe_meth (pv 0) X.cl_De X.m_De_look_up G_De_look_up (hr.mono (by decide)) b_De_look_up .nil passE (pa_cons (pv 1) pa_nil)))
    (pss_cons (ps_set (i := 3) sc_De_school_told.nd rfl (Or.inl rfl) (pe_meth (pe_fld (pe_fld (pv 0) rfl) rfl) X.cl_Ru X.m_Ru_owed G_Ru_owed (hr.mono (by decide)) b_Ru_owed .nil pass0 (pa_cons (pe_fld (pv 2) rfl) pa_nil)))
    (pss_one (ps_ret (pe_lst (pa_cons (pe_fld (pv 2) rfl) (pa_cons (pe_fld (pv 2) rfl) (pa_cons (pe_meth (pe_fld (pv 0) rfl) X.cl_St X.m_St_standing G_St_standing (hr.mono (by decide)) b_St_standing .nil pass0 (pa_cons (pv 2) pa_nil)) (pa_cons (pe_fld (pv 2) rfl) (pa_cons (pv 3) pa_nil)))))))))), ?_⟩), F.binds fun _ _ _ _ _ _ us hl => match us, hl with | [_, _], _ => rfl⟩
  · obtain ⟨_, _, _, _, rfl, _⟩ := h
    rfl
  · obtain ⟨d, L, m, n, rfl, c, b, dq⟩ := h
    refine q_look c dq (ev_var rfl) (ev_var rfl) fun H1 i a e1 hf hl ha hs c dq => ?_
    have st := c.st
    refine q_asg (v := .int (m.rules.owed (m.sch i).has)) (ev_meth (ev_St_rules X st.st (ev_De_state X c.ob (ev_var rfl))) st.bd.ru.ob (no_Ru_owed _) (ea_cons (ev_Sc_has X hs (ev_var rfl)) ea_nil) fun H2 e2 Q' q E' => ⟨L.ru, L.rl, m.rules, _, rfl, st.bd.ru.ex e2, b.each, b.many, q⟩) fun H2 e2 => ?_
    have c2 := c.ex e2
    have hs2 := hs.ex e2
    exact s_retL (el_lst (ea_cons (ev_Sc_has X hs2 (ev_var rfl)) (ea_cons (ev_Sc_wanted X hs2 (ev_var rfl)) (ea_cons (ev_meth (ev_De_state X c2.ob (ev_var rfl)) c2.st.st (no_St_standing _ _) (ea_cons (ev_var rfl) ea_nil) fun H3 e3 Q' q E' => ⟨L, m, a, m.sch i, rfl, c2.st.ex e3, b.offs, hs2.ex e3, q⟩) (ea_cons (ev_Sc_judges X hs2 (ev_var rfl)) (ea_cons (ev_var rfl) ea_nil))))) (by show 5 ≤ 100000; decide)) ((dq.ex e2).fin (Fr.refl _ _) c2)
def sp_De_offers_told (K : PySem.W.Frag) (A : Ads) : Sp := fun vs H Q _ => ∃ (d : Addr) (L : Lay) (m : M), vs = [.ref d] ∧ DAt A H d L m ∧ Bounds m ∧ RetL (iV (offersM m)) H Q
theorem ok_De_offers_told (X : Tx K mg A) : Okd P w K mg base CX0 2 A.De_offers_told ["self"] (sp_De_offers_told K A) := by
  obtain ⟨fd_f_with_rows, G_f_with_rows, b_f_with_rows⟩ := ok_f_with_rows (P := P) (w := w) (base := base) X
  obtain ⟨fd, F⟩ := X.fn_De_offers_told
  refine ⟨fd, F.ok sc_De_offers_told (fun vs H Q E h => ?_) (fun cdv A' outer s H vs Q E hr h => ⟨_, (pss_cons (ps_set (i := 1) sc_De_offers_told.nd rfl (Or.inl rfl) (pe_lst pa_nil))
    (pss_cons (ps_for (PassesOwn.never) rfl (pi_list (pe_fld (pe_fld (pv 0) rfl) rfl)) (pg_name (i := 2) sc_De_offers_told.nd rfl (Or.inl rfl))
      (pss_cons (ps_set (i := 3) sc_De_offers_told.nd rfl (Or.inl rfl) (pe_op op_add (pe_fld (pv 2) rfl) (pe_ix ix_list (pe_fld (pe_fld (pe_fld (pv 0) rfl) rfl) rfl) pe_int (fun _ _ => rfl))))
      (pss_one (ps_expr (pe_bm PySem.F.plainAttrs_list PySem.F.slot_list_append PySem.F.type_list_append mt_append (pv 1) (pa_cons (pe_lst (pa_cons (pe_fld (pv 2) rfl) (pa_cons (pe_fld (pv 2) rfl) (pa_cons (pe_fld (pv 2) rfl) (pa_cons (pv 3) pa_nil))))) pa_nil))))))
    (pss_one (ps_ret (pe_call G_f_with_rows (hr.mono (by decide)) rfl X.g_f_with_rows X.k_f_with_rows b_f_with_rows .nil pass0 (pa_cons (pe_callB call_len_seq (by rfl) X.b_len PySem.boot_len (pa_cons (pv 1) pa_nil)) (pa_cons (pv 1) pa_nil))))))), ?_⟩), F.binds fun _ _ _ _ _ _ us hl => match us, hl with | [_], _ => rfl⟩
  · obtain ⟨_, _, _, rfl, _⟩ := h
    rfl
  · obtain ⟨d, L, m, rfl, c, b, k⟩ := h
    have hl2 : (refs L.os).length = m.offers.length := (refs_len _).trans c.st.bd.os.len
    refine q_asgL (el_lst ea_nil (by decide)) fun q H1 hq e1 l1 => ?_
    have c1 := c.ex e1
    refine q_forLn (ev_St_offers X c1.st.st (ev_De_state X c1.ob (ev_var rfl))) (SqL.of c1.st.bd.ol) (fun i σ' H' => (∃ v u, σ' = [some (.ref d), some (.ref q), v, u]) ∧ Ex H H' ∧ ∃ as, H' q = some (.lst (refs as)) ∧ LLI H' as ((m.offers.take i).map fun o => [o.number, o.school, o.day, o.day + m.rules.answer]) ∧ q ∉ as ∧ as.length ≤ i)
      (fun H2 e2 => ⟨⟨_, _, rfl⟩, e1.trans e2, [], e2 _ _ l1, ⟨rfl, fun i a r h1 _ => by cases h1⟩, List.not_mem_nil, Nat.zero_le _⟩) (fun i σ' H' _ z => SqL.of (c.ex z.2.1).st.bd.ol) (fun i x σ' H' hx z => ?_) fun σ' H' z => ?_
    · obtain ⟨⟨v, u, rfl⟩, e, as, lq, ll, nq, hlen⟩ := z
      have c' := c.ex e
      have st := c'.st
      obtain ⟨a, ha, rfl⟩ := refs_get hx
      obtain ⟨o, ho⟩ := get_len st.bd.os.len ha
      have hat := st.bd.os.ob i a o ha ho
      have hi : i < m.offers.length := (List.getElem?_eq_some_iff.mp ho).1
      refine q_asg (v := .int (o.day + m.rules.answer)) (ev_i0 (ev_Of_day X hat (ev_var rfl)) (ev_ix0 (ev_Ru_answer X st.bd.ru.ob (ev_St_rules X st.st (ev_De_state X c'.ob (ev_var rfl)))) st.bd.ru.answer)) fun H2 e2 => ?_
      have hat2 := hat.ex e2
      refine s_appL (e2 _ _ lq) (ev_var rfl) (el_lst (ea_cons (ev_Of_number X hat2 (ev_var rfl)) (ea_cons (ev_Of_school X hat2 (ev_var rfl)) (ea_cons (ev_Of_day X hat2 (ev_var rfl)) (ea_cons (ev_var rfl) ea_nil)))) (by show 4 ≤ 100000; decide)) (by rw [refs_len]; have := b.offs; omega) fun p H3 hp e3 l3 => ?_
      have npq : p ≠ q := fun z => by rw [z, e2 _ _ lq] at hp; cases hp
      have tk : (m.offers.take (i + 1)).map (fun o => [o.number, o.school, o.day, o.day + m.rules.answer]) = (m.offers.take i).map (fun o => [o.number, o.school, o.day, o.day + m.rules.answer]) ++ [[o.number, o.school, o.day, o.day + m.rules.answer]] := by
        rw [List.take_succ, ho, List.map_append]
        rfl
      have nq2 : q ∉ as ++ [p] := fun z => by
        rcases List.mem_append.mp z with y | y
        · exact nq y
        · exact npq (by simpa using y : q = p).symm
      refine ⟨⟨_, _, rfl⟩, ((e.trans e2).trans e3).mut hq, as ++ [p], ?_, ?_, nq2, by rw [List.length_append]; show as.length + 1 ≤ i + 1; omega⟩
      · rw [upd_same, refs_snoc]
      · rw [tk]
        exact (((ll.ex e2).ex e3).snoc l3).off nq2
    · obtain ⟨⟨v, u, rfl⟩, e, as, lq, ll, nq, hlen⟩ := z
      rw [hl2, List.take_length] at ll
      have hal : as.length = m.offers.length := by rw [ll.len, List.length_map]
      refine q_call (ea_cons (ev_is (ev_len (ev_var rfl) (SqL.of lq)) (congrArg (fun n : Nat => V.int (n : Int)) ((refs_len as).trans hal))) (ea_cons (ev_var rfl) ea_nil)) fun H2 e2 => ⟨(m.offers.length : Int), q, as, _, rfl, e2 _ _ lq, ll.ex e2, by rw [List.length_map]; have := b.offs; omega, fun r hr => ?_, fun p H3 hp e3 l3 => k p H3 (fresh_back (e.trans e2) hp) ((e.trans e2).trans e3) l3⟩
      obtain ⟨o, _, rfl⟩ := List.mem_map.mp hr
      show 4 ≤ 1000
      decide
theorem mem_put {α : Type} {l : List α} : l = l := rfl
def sp_De_night (K : PySem.W.Frag) (A : Ads) : Sp := fun vs H Q E => ∃ (d : Addr) (L : Lay) (m : M) (n : Int), vs = [.ref d, .int n] ∧ DAt A H d L m ∧ Good m ∧ DeskQ A E H d L Q (nightM m n)
theorem ok_De_night (X : Tx K mg A) : Okd P w K mg base (L2.CX P w) 6 A.De_night ["self", "many"] (sp_De_night K A) := by
  obtain ⟨fd_St_pass_night, G_St_pass_night, b_St_pass_night⟩ := ok_St_pass_night (P := P) (w := w) (base := base) X
  obtain ⟨fd_f_refuse_if, G_f_refuse_if, b_f_refuse_if⟩ := ok_f_refuse_if (P := P) (w := w) (base := base) X
  obtain ⟨fd, F⟩ := X.fn_De_night
  refine ⟨fd, F.okX sc_De_night (fun vs H Q E h => ?_) (fun cdv A' outer s H vs Q E hr h => ⟨_, (pss_cons (ps_expr (pe_call G_f_refuse_if (hr.mono (by decide)) rfl X.g_f_refuse_if X.k_f_refuse_if b_f_refuse_if .nil passE (pa_cons (pe_not (pe_chain op_le op_le pe_int (pv 1) pe_int)) (pa_cons (pe_un un_neg pe_int) pa_nil))))
    (pss_cons (ps_expr (pe_call G_f_refuse_if (hr.mono (by decide)) rfl X.g_f_refuse_if X.k_f_refuse_if b_f_refuse_if .nil passE (pa_cons (pe_cmpR op_gt (pe_op op_add (pe_fld (pe_fld (pv 0) rfl) rfl) (pv 1)) (pe_gi rfl X.c_MOST_DAY) (nomark _)) (pa_cons (pe_un un_neg pe_int) pa_nil))))
    (pss_cons (ps_set (i := 2) sc_De_night.nd rfl (Or.inl rfl) (pe_fld (pe_fld (pv 0) rfl) rfl))
    (pss_cons (ps_for (passes_of rfl) rfl (pi_range1 (by rfl) X.b_range (pa_cons (pv 1) pa_nil)) (pg_name (i := 3) sc_De_night.nd rfl (Or.inl rfl))
      (pss_one (ps_expr (pe_meth0 (pe_fld (pv 0) rfl) X.cl_St X.m_St_pass_night G_St_pass_night (hr.mono (by decide)) b_St_pass_night .nil pass0))))
    (pss_cons (ps_set (i := 4) sc_De_night.nd rfl (Or.inl rfl) (pe_lst (pa_cons (pe_fld (pe_fld (pv 0) rfl) rfl) pa_nil)))
    (pss_cons (ps_for (passes_of rfl) rfl (pi_list (pe_fld (pe_fld (pv 0) rfl) rfl)) (pg_name (i := 5) sc_De_night.nd rfl (Or.inl rfl))
      (pss_one (ps_if (pt_cmpR op_ge (pe_fld (pv 5) rfl) (pv 2) (nomark _))
        (pss_one (ps_set (i := 4) sc_De_night.nd rfl (Or.inl rfl) (pe_op op_cat (pv 4) (pe_lst (pa_cons (pe_fld (pv 5) rfl) (pa_cons (pe_fld (pv 5) rfl) (pa_cons (pe_fld (pv 5) rfl) pa_nil)))))))
        pss_nil)))
    (pss_one (ps_ret (pv 4))))))))), ?_⟩), F.binds fun _ _ _ _ _ _ us hl => match us, hl with | [_, _], _ => rfl⟩
  · obtain ⟨_, _, _, _, rfl, _⟩ := h
    rfl
  · obtain ⟨d, L, m, n, rfl, c, g, dq⟩ := h
    refine q_ref c dq (ev_outside (ev_var rfl)) (ev_neg ev_c) fun hx H1 e1 c dq => ?_
    have hx30 : 1 ≤ n ∧ n ≤ 30 := by
      unfold outside at hx
      rw [Bool.not_eq_false', Bool.and_eq_true] at hx
      exact ⟨of_decide_eq_true hx.1, of_decide_eq_true hx.2⟩
    refine q_ref c dq (ev_i0 (ev_i0 (ev_St_day X c.st.st (ev_De_state X c.ob (ev_var rfl))) (ev_var rfl)) ev_c) (ev_neg ev_c) fun _ H2 e2 c dq => ?_
    refine q_asg (ev_St_made X c.st.st (ev_De_state X c.ob (ev_var rfl))) fun H3 e3 => ?_
    have c3 := c.ex e3
    have dq3 := dq.ex e3
    refine q_forR1 (ea_cons (ev_var rfl) ea_nil) ⟨by omega, by omega⟩ (fun i σ' H' => (∃ v, σ' = [some (.ref d), some (.int n), some (.int m.made), v, none, none]) ∧ ∃ L', DAt A H' d L' (nightsM i m) ∧ Good (nightsM i m) ∧ L'.st = L.st ∧ Fr H3 H' (foot L) (foot L')) (fun H4 e4 => ⟨⟨_, rfl⟩, L, c3.ex e4, g, rfl, (Fr.refl _ _).ex e4⟩) (fun i σ' H' _ z => ?_) fun σ' H' z => ?_
    · obtain ⟨⟨v, rfl⟩, L', c', g', st', f'⟩ := z
      refine q_meth (ev_De_state X c'.ob (ev_var rfl)) c'.st.st (no_St_pass_night _ _) ea_nil fun H5 e5 => ⟨L', nightsM i m, rfl, c'.st.ex e5, g', fun H6 L6 h6 s6 f6 => ⟨⟨_, rfl⟩, L6, (c'.ex e5).of f6 h6 s6, g'.night, s6.trans st', (f'.ex e5).trans f6⟩⟩
    · obtain ⟨⟨v, rfl⟩, L', c', g', st', f'⟩ := z
      generalize hm' : nightsM n.toNat m = m' at c' g' dq3
      have b' := g'.bounds
      have dq4 : DeskQ A E H3 d L Q (.ok (m', m'.day :: (m'.offers.filter fun o => decide (m.made ≤ o.number)).flatMap fun o => [o.number, o.school, o.day])) := dq3
      refine q_asgL (el_lst (ea_cons (ev_St_day X c'.st.st (ev_De_state X c'.ob (ev_var rfl))) ea_nil) (by show 1 ≤ 100000; decide)) fun q H4 hq e4 l4 => ?_
      have c4 := c'.ex e4
      have hl2 : (refs L'.os).length = m'.offers.length := (refs_len _).trans c4.st.bd.os.len
      refine q_forLn (ev_St_offers X c4.st.st (ev_De_state X c4.ob (ev_var rfl))) (SqL.of c4.st.bd.ol) (fun i σ' H' => (∃ v q u, σ' = [some (.ref d), some (.int n), some (.int m.made), v, some (.ref q), u] ∧ H' q = some (.lst (iV (m'.day :: ((m'.offers.take i).filter fun o => decide (m.made ≤ o.number)).flatMap fun o => [o.number, o.school, o.day]))) ∧ (∀ b o, H3 b = some o → b ∉ dfoot d L → b ≠ q)) ∧ Ex H' H' ∧ DAt A H' d L' m' ∧ Fr H3 H' (foot L) (foot L') ∧ (((m'.offers.take i).filter fun o => decide (m.made ≤ o.number)).flatMap fun o => [o.number, o.school, o.day]).length ≤ 3 * i)
        (fun H5 e5 => ⟨⟨_, q, _, rfl, e5 _ _ l4, fun b o hb nb z => by
          have := f'.desk.keep b o hb nb
          rw [z, hq] at this
          cases this⟩, Ex.refl _, c4.ex e5, (f'.ex e4).ex e5, Nat.le_refl _⟩) (fun i σ' H' _ z => SqL.of z.2.2.1.st.bd.ol) (fun i x σ' H' hx z => ?_) fun σ' H' z => ?_
      · obtain ⟨⟨v, q, u, rfl, lq, nq⟩, _, c5, f5, hlen⟩ := z
        obtain ⟨a, ha, rfl⟩ := refs_get hx
        obtain ⟨o, ho⟩ := get_len c5.st.bd.os.len ha
        have hat := c5.st.bd.os.ob i a o ha ho
        have hi : i < 60 := by
          have := (List.getElem?_eq_some_iff.mp ho).1
          have := b'.offs
          omega
        have tk : m'.offers.take (i + 1) = m'.offers.take i ++ [o] := by rw [List.take_succ, ho]; rfl
        rw [tk, List.filter_append, List.flatMap_append]
        refine s_when (et_test (ev_i0 (ev_Of_number X hat (ev_var rfl)) (ev_var rfl))) (fun hb H6 e6 => ?_) (fun hb H6 e6 => ?_)
        · have ef : [o].filter (fun o => decide (m.made ≤ o.number)) = [o] := by rw [List.filter_cons, if_pos hb]; rfl
          rw [ef]
          have hat6 := hat.ex e6
          have lq6 := e6 _ _ lq
          refine s_asgL (el_cat (x_of (ev_var rfl) lq6) (x_of_L (el_lst (ea_cons (ev_Of_number X hat6 (ev_var rfl)) (ea_cons (ev_Of_school X hat6 (ev_var rfl)) (ea_cons (ev_Of_day X hat6 (ev_var rfl)) ea_nil))) (by show 3 ≤ 100000; decide))) (by rw [iV_len, List.length_cons]; show _ + 1 + 3 ≤ 10000000; omega)) fun q2 H7 hq2 e7 l7 => ?_
          refine ⟨⟨_, q2, _, rfl, ?_, fun b o hb nb z => ?_⟩, Ex.refl _, (c5.ex e6).ex e7, (f5.ex e6).ex e7, ?_⟩
          · rw [l7]
            unfold iV
            rw [List.map_cons, List.map_cons, List.map_append]
            rfl
          · have := (f5.ex e6).desk.keep b o hb nb
            rw [z, hq2] at this
            cases this
          · rw [List.length_append]
            show _ + 3 ≤ _
            omega
        · have ef : [o].filter (fun o => decide (m.made ≤ o.number)) = [] := by rw [List.filter_cons, if_neg (by rw [hb]; decide)]; rfl
          rw [ef]
          show (∃ v q u, _ = _ ∧ H6 q = some (.lst (iV (m'.day :: (_ ++ [])))) ∧ _) ∧ Ex H6 H6 ∧ DAt A H6 d L' m' ∧ Fr H3 H6 (foot L) (foot L') ∧ (_ ++ []).length ≤ _
          rw [List.append_nil]
          exact ⟨⟨_, q, _, rfl, e6 _ _ lq, nq⟩, Ex.refl _, c5.ex e6, f5.ex e6, by omega⟩
      · obtain ⟨⟨v, q, u, rfl, lq, nq⟩, _, c5, f5, hlen⟩ := z
        rw [hl2, List.take_length] at lq
        exact s_ret (ev_var rfl) fun H6 e6 => dq4 H6 L' q (c5.ex e6) (f5.desk.ex e6) nq (e6 _ _ lq)
end
end Eh

-- EhW13
set_option Elab.async false
set_option linter.all false
set_option maxRecDepth 100000
set_option maxHeartbeats 4000000
namespace Eh
open PySem PySem.Spec PyProof.Rows L2 EhR EhZ Evl
section
variable {K : PySem.W.Frag} {mg : Str → Option Value} {A : Ads} {σ : L2.St} {H : Hp} {ta tb te tv tl : TE} {D : Ends} {tz tu : TS}
/-- [a new list for x in xs] -/
theorem q_lcRows {a : Addr} {xs : List V} {rs : List (List Int)} {j : Nat} {vs : List Nat} {Q : VK} (h : Ev tl σ H (.ref a)) (hx : SqL K H a xs) (hl : xs.length = rs.length) (hz : xs.length ≤ 1000) (hw : ∀ x, wipe ((wipe σ vs).set j (some x)) vs = wipe σ vs)
    (he : ∀ (i : Nat) (x : V) (r : List Int) H1, Ex H H1 → xs[i]? = some x → rs[i]? = some r → EvL te ((wipe σ vs).set j (some x)) H1 (iV r))
    (k : ∀ p H1 as, H p = none → Ex H H1 → H1 p = some (.lst (refs as)) → LLI H1 as rs → Q (.ref p) H1) : tLc (iList K tl) (gName j) tYes te vs σ H Q := h H (Ex.refl H) _ fun H1 e1 => ⟨a, rfl, ⟨xs, ex_l e1 hx⟩, fun Dl hD => by
  refine lc_list (xs := xs) (fun i H' => Ex H1 H' ∧ ∃ as, H' Dl = some (.lst (refs as)) ∧ LLI H' as (rs.take i) ∧ Dl ∉ as) ⟨Ex.new hD, [], upd_same, ⟨rfl, fun i a r h1 _ => by cases h1⟩, List.not_mem_nil⟩ (fun i H' _ p => ex_l (e1.trans p.1) hx) (fun i x H' hi p => ⟨hw x, ?_⟩) fun H' p => ?_
  · obtain ⟨e, as, lp, ll, nd⟩ := p
    obtain ⟨r, hr⟩ := get_len hl hi
    have hlen := ll.len
    rw [List.length_take] at hlen
    refine he i x r H' (e1.trans e) hi hr H' (Ex.refl _) _ fun p H2 hp e2 h2 => ⟨refs as, e2 _ _ lp, sz_lt (by rw [refs_len]; omega), (e.trans e2).mut hD, as ++ [p], ?_, ?_, ?_⟩
    · rw [upd_same, refs_snoc]
    · have nd2 : Dl ∉ as ++ [p] := fun z => by
        rcases List.mem_append.mp z with y | y
        · exact nd y
        · have : Dl = p := by simpa using y
          rw [← this, lp] at hp
          cases hp
      have tk : rs.take (i + 1) = rs.take i ++ [r] := by rw [List.take_succ, hr]; rfl
      rw [tk]
      exact ((ll.ex e2).snoc h2).off nd2
    · intro z
      rcases List.mem_append.mp z with y | y
      · exact nd y
      · have : Dl = p := by simpa using y
        rw [← this, lp] at hp
        cases hp
  · obtain ⟨e, as, lp, ll, nd⟩ := p
    rw [hl, List.take_length] at ll
    exact k Dl H' as (fresh_back e1 hD) (e1.trans e) lp ll⟩
theorem q_asgRows {a : Addr} {xs : List V} {rs : List (List Int)} {j i0 : Nat} {vs : List Nat} (h : Ev tl σ H (.ref a)) (hx : SqL K H a xs) (hl : xs.length = rs.length) (hz : xs.length ≤ 1000) (hw : ∀ x, wipe ((wipe σ vs).set j (some x)) vs = wipe σ vs)
    (he : ∀ (i : Nat) (x : V) (r : List Int) H1, Ex H H1 → xs[i]? = some x → rs[i]? = some r → EvL te ((wipe σ vs).set j (some x)) H1 (iV r))
    (k : ∀ p H1 as, H p = none → Ex H H1 → H1 p = some (.lst (refs as)) → LLI H1 as rs → tz D (σ.set i0 (some (.ref p))) H1) : tSeq (tAsg (tLc (iList K tl) (gName j) tYes te vs) (gName i0)) tz D σ H :=
  q_lcRows (Q := fun v H1 => tz D (σ.set i0 (some v)) H1) h hx hl hz hw he k
/-- a new list of rows -/
def EvRows (tl : TE) (σ : L2.St) (H : Hp) (rs : List (List Int)) : Prop := ∀ H1, Ex H H1 → ∀ Q : VK, (∀ p H2 as, H1 p = none → Ex H1 H2 → H2 p = some (.lst (refs as)) → LLI H2 as rs → Q (.ref p) H2) → tl σ H1 Q
theorem s_retWR {v : Int} {rs : List (List Int)} {E : XK} (hv : Ev tv σ H (.int v)) (hl : EvRows tl σ H rs) (b1 : rs.length ≤ 100) (b2 : ∀ r ∈ rs, r.length ≤ 1000) (k : RetL (iV (withRows v rs)) H D.rt) : tRet (tCall (sp_f_with_rows K A) [] E (tCons tv (tCons tl tNil))) D σ H :=
  hv H (Ex.refl H) _ fun H1 e1 => hl H1 e1 _ fun p H2 as hp e2 lp ll => ⟨v, p, as, rs, rfl, lp, ll, b1, b2, fun p3 H3 hp3 e3 l3 => k p3 H3 (fresh_back (e1.trans e2) hp3) ((e1.trans e2).trans e3) l3⟩
theorem er_two {x : Int} {q : Addr} {r : List Int} (hx : Ev te σ H (.int x)) (hq : Ev tv σ H (.ref q)) (lq : H q = some (.lst (iV r))) : EvRows (tLst (tCons (tLst (tCons te tNil)) (tCons tv tNil))) σ H [[x], r] := fun H1 e1 Q k =>
  el_lst (ea_cons hx ea_nil) (by show 1 ≤ 100000; decide) H1 e1 (fun x H2 => tv σ H2 fun y H3 => ([x, y] : List V).length ≤ sizeLine ∧ ∀ p, H3 p = none → Q (.ref p) (upd H3 p (.lst [x, y]))) fun a H2 ha e2 la => hq H2 (e1.trans e2) _ fun H3 e3 => ⟨by show 2 ≤ sizeLine; decide, fun p hp => by
    have la3 := e3 _ _ la
    have lq3 := (e2.trans e3) _ _ (e1 _ _ lq)
    have npa : a ≠ p := ne_of_none la3 hp
    have npq : q ≠ p := ne_of_none lq3 hp
    refine k p _ [a, q] (fresh_back (e2.trans e3) hp) ((e2.trans e3).trans (Ex.new hp)) upd_same ⟨rfl, fun i b w h1 h2 => ?_⟩
    match i, h1, h2 with
    | 0, h1, h2 => cases h1; cases h2; rw [upd_ne npa]; exact la3
    | 1, h1, h2 => cases h1; cases h2; rw [upd_ne npq]; exact lq3
    | n + 2, h1, h2 => cases h1⟩
end
section
variable {P : Program} {w : World} {K : PySem.W.Frag} {mg : Str → Option Value} {base : Heap} {A : Ads}
def sp_De_money (K : PySem.W.Frag) (A : Ads) : Sp := fun vs H Q _ => ∃ (d : Addr) (L : Lay) (m : M), vs = [.ref d] ∧ DAt A H d L m ∧ Bounds m ∧ RetL (iV (moneyM m)) H Q
theorem ok_De_money (X : Tx K mg A) : Okd P w K mg base CX0 2 A.De_money ["self"] (sp_De_money K A) := by
  obtain ⟨fd_Sc_account, G_Sc_account, b_Sc_account⟩ := ok_Sc_account (P := P) (w := w) (base := base) X
  obtain ⟨fd_Sc_money, G_Sc_money, b_Sc_money⟩ := ok_Sc_money (P := P) (w := w) (base := base) X
  obtain ⟨fd, F⟩ := X.fn_De_money
  refine ⟨fd, F.ok sc_De_money (fun vs H Q E h => ?_) (fun cdv A' outer s H vs Q E hr h => ⟨_, (pss_cons (ps_set (i := 1) sc_De_money.nd rfl (Or.inl rfl) (pe_fld (pe_fld (pv 0) rfl) rfl))
    (pss_cons (ps_set (i := 2) sc_De_money.nd rfl (Or.inr rfl) (pe_lc (own := [("school", 3)]) (g := gName 3) rfl sc_De_money.nd (pi_list (pv 1)) (blkOk_by (N := ["self", "schools", "rows", "school", "sort", "row"]) (sc := defScope s_De_money) (own := [("school", 3)]) (by decide +kernel)) (fun _ _ _ _ _ => pg_name (i := 3) sc_De_money.nd rfl (.inl rfl)) (fun _ _ _ _ _ => pts_nil) (fun _ _ _ _ _ => (pe_meth0 (pv 3) X.cl_Sc X.m_Sc_money G_Sc_money (hr.mono (by decide)) b_Sc_money .nil pass0))))
    (pss_one (ps_ret (pe_op op_cat (pe_lst (pa_cons (pe_callB (cr_sum rfl) (by rfl) X.b_sum (by decide +kernel) (pa_cons (pe_lc (own := [("school", 3)]) (g := gName 3) rfl sc_De_money.nd (pi_list (pv 1)) (blkOk_by (N := ["self", "schools", "rows", "school", "sort", "row"]) (sc := defScope s_De_money) (own := [("school", 3)]) (by decide +kernel)) (fun _ _ _ _ _ => pg_name (i := 3) sc_De_money.nd rfl (.inl rfl)) (fun _ _ _ _ _ => pts_nil) (fun _ _ _ _ _ => (pe_meth0 (pv 3) X.cl_Sc X.m_Sc_account G_Sc_account (hr.mono (by decide)) b_Sc_account .nil pass0))) pa_nil)) pa_nil)) (pe_lc (own := [("sort", 4)]) (g := gName 4) (te := (tCB (rSum K) (tCons (tLc (iList K (tVar 2)) (gName 5) tYes (tOp (rIxL K) (tVar 5) (tVar 4)) [5]) tNil))) rfl sc_De_money.nd (pi_range1 (by rfl) X.b_range (pa_cons pe_int pa_nil)) (blkOk_by (N := ["self", "schools", "rows", "school", "sort", "row"]) (sc := defScope s_De_money) (own := [("sort", 4)]) (by decide +kernel)) (fun _ _ _ _ _ => pg_name (i := 4) sc_De_money.nd rfl (.inr rfl)) (fun _ _ _ _ _ => pts_nil) (fun _ _ _ _ _ => (pe_callB (cr_sum rfl) (by rfl) X.b_sum (by decide +kernel) (pa_cons (pe_lc (own := [("row", 5)]) (g := gName 5) (te := (tOp (rIxL K) (tVar 5) (tVar 4))) rfl sc_De_money.nd (pi_list (pv 2)) (blkOk_by (N := ["self", "schools", "rows", "school", "sort", "row"]) (sc := scIn) (own := [("row", 5)]) (by decide +kernel)) (fun _ _ _ _ _ => pg_name (i := 5) sc_De_money.nd rfl (.inl rfl)) (fun _ _ _ _ _ => pts_nil) (fun _ _ _ _ _ => (pe_ix ix_list (pv 5) (pv 4) (fun _ _ => rfl)))) pa_nil))))))))), ?_⟩), F.binds fun _ _ _ _ _ _ us hl => match us, hl with | [_], _ => rfl⟩
  · obtain ⟨_, _, _, rfl, _⟩ := h
    rfl
  · obtain ⟨d, L, m, rfl, c, b, k⟩ := h
    refine q_asg (ev_St_schools X c.st.st (ev_De_state X c.ob (ev_var rfl))) fun H1 e1 => ?_
    have st := (c.ex e1).st
    have hl := st.bd.ss.len
    have few := b.few
    refine q_asgRows (rs := m.schools.map MS.money) (ev_var rfl) (SqL.of st.bd.sl) (by rw [refs_len, List.length_map, hl]) (by rw [refs_len]; omega) (fun _ => rfl) (fun i x r H2 e2 hx hr => ?_) fun p H2 as hp e2 lp ll => ?_
    · obtain ⟨a, ha, rfl⟩ := refs_get hx
      obtain ⟨s, hs⟩ := get_len hl ha
      rw [List.getElem?_map, hs] at hr
      cases hr
      have hat := (st.bd.ss.ob i a s ha hs).ex e2
      exact el_meth (ev_var rfl) hat (no_Sc_money _) ea_nil fun H3 e3 Q' q E' => ⟨a, s, rfl, hat.ex e3, q⟩
    · have st2 := st.ex e2
      have lenA := ll.len
      rw [List.length_map] at lenA
      have hx : SqL K H2 L.sl ((L.ss.zip m.schools).map fun p => V.ref p.1) := by rw [← zip_refs hl]; exact SqL.of st2.bd.sl
      have evA := el_lcM (K := K) (tl := tVar 1) (t := tYes) (te := tMeth A.Sc "account" (sp_Sc_account K A) [] E0 (tVar 3) tNil) (σ := [some (.ref d), some (.ref L.sl), some (.ref p), none, none, none]) (j := 3) (vs := [3]) (0, MS.zero) (fun _ => true) (fun p => V.int p.2.account) (ev_var rfl) hx (by rw [List.length_zip, hl]; omega) (fun _ => rfl)
        (fun p i H3 e hp => et_yes) (fun p i H3 e hp _ => ev_meth (ev_var rfl) ((st2.bd.ss.zip hp).ex e) (no_Sc_account _) ea_nil fun H4 e4 Q' q E' => ⟨p.1, p.2, rfl, ((st2.bd.ss.zip hp).ex e).ex e4, q⟩)
      rw [filter_all, zip_map hl (fun s : MS => V.int s.account)] at evA
      have eA : m.schools.map (fun s : MS => V.int s.account) = (m.schools.map MS.account).map V.int := by rw [List.map_map]; rfl
      rw [eA] at evA
      have lenA' : as.length = m.schools.length := lenA
      have hx2 : SqL K H2 p ((as.zip m.schools).map fun p => V.ref p.1) := by rw [← zip_refs lenA']; exact SqL.of lp
      have evB := el_lcR1 (te := tCB (rSum K) (tCons (tLc (iList K (tVar 2)) (gName 5) tYes (tOp (rIxL K) (tVar 5) (tVar 4)) [5]) tNil)) (t := tYes) (ta := tCons (tC (.int 5)) tNil) (σ := [some (.ref d), some (.ref L.sl), some (.ref p), none, none, none]) (H := H2) (j := 4) (vs := [4]) (fun _ => true) (fun i => V.int (m.schools.map fun s => s.money.getD i 0).sum) (ea_cons ev_c ea_nil) ⟨by decide, by decide⟩ (fun _ => rfl) (fun i H3 e3 hi => et_yes)
        (fun i H3 e3 hi _ => by
          have evC := el_lcM (K := K) (tl := tVar 2) (t := tYes) (te := tOp (rIxL K) (tVar 5) (tVar 4)) (σ := [some (.ref d), some (.ref L.sl), some (.ref p), none, some (.int (i : Int)), none]) (H := H3) (j := 5) (vs := [5]) (0, MS.zero) (fun _ => true) (fun q => V.int (q.2.money.getD i 0)) (ev_var rfl) (ex_l e3 hx2) (by rw [List.length_zip]; omega) (fun _ => rfl)
            (fun q j H4 e hq => et_yes) (fun q j H4 e hq _ => by
              have hg := zip_get hq
              have hrow := ll.ob j q.1 q.2.money hg.1 (by rw [List.getElem?_map, hg.2]; rfl)
              exact ev_ixn (ev_var rfl) (ev_var rfl) (SqL.of ((e3.trans e) _ _ hrow)) (by omega) (by rw [Int.toNat_natCast]; exact iV_get (by show i < 5; omega)))
          rw [filter_all, zip_map lenA' (fun s : MS => V.int (s.money.getD i 0))] at evC
          have eC : m.schools.map (fun s : MS => V.int (s.money.getD i 0)) = (m.schools.map fun s => s.money.getD i 0).map V.int := by rw [List.map_map]; rfl
          rw [eC] at evC
          exact ev_sumL evC)
      have gB : given (5 : Int).toNat (fun _ => true) (fun i => V.int (m.schools.map fun s => s.money.getD i 0).sum) = iV ((List.range 5).map fun i => (m.schools.map fun s => s.money.getD i 0).sum) := by
        unfold given iV
        rw [filter_all, List.map_map]
        rfl
      rw [gB] at evB
      refine s_retL (el_cat (x_of_L (el_lst (ea_cons (ev_sumL evA) ea_nil) (by show 1 ≤ 100000; decide))) (x_of_L evB) (by rw [iV_len, List.length_map, List.length_range]; show 1 + 5 ≤ 10000000; decide)) fun p3 H3 hp3 e3 l3 => k p3 H3 (fresh_back (e1.trans e2) hp3) ((e1.trans e2).trans e3) l3
def rowsC (r : MR) (ss : List MS) (i : Nat) : List Int := (ss.take i).flatMap fun s => [s.number, s.has, r.missing s]
def sp_De_close (K : PySem.W.Frag) (A : Ads) : Sp := fun vs H Q E => ∃ (d : Addr) (L : Lay) (m : M), vs = [.ref d] ∧ DAt A H d L m ∧ Bounds m ∧ DeskQ A E H d L Q (closeM m)
theorem ok_De_close (X : Tx K mg A) : Okd P w K mg base (L2.CX P w) 5 A.De_close ["self"] (sp_De_close K A) := by
  obtain ⟨fd_f_with_rows, G_f_with_rows, b_f_with_rows⟩ := ok_f_with_rows (P := P) (w := w) (base := base) X
  obtain ⟨fd_St_taken, G_St_taken, b_St_taken⟩ := ok_St_taken (P := P) (w := w) (base := base) X
  obtain ⟨fd_St_missing, G_St_missing, b_St_missing⟩ := ok_St_missing (P := P) (w := w) (base := base) X
  obtain ⟨fd_St_close, G_St_close, b_St_close⟩ := ok_St_close (P := P) (w := w) (base := base) X
  obtain ⟨fd_De_look_entries, G_De_look_entries, b_De_look_entries⟩ := ok_De_look_entries (P := P) (w := w) (base := base) X
  obtain ⟨fd_f_refuse_if, G_f_refuse_if, b_f_refuse_if⟩ := ok_f_refuse_if (P := P) (w := w) (base := base) X
  obtain ⟨fd_De_look_closed, G_De_look_closed, b_De_look_closed⟩ := ok_De_look_closed (P := P) (w := w) (base := base) X
  obtain ⟨fd, F⟩ := X.fn_De_close
  refine ⟨fd, F.okX sc_De_close (fun vs H Q E h => ?_) (fun cdv A' outer s H vs Q E hr h => ⟨_, (pss_cons (ps_set (i := 1) sc_De_close.nd rfl (Or.inl rfl) (pe_fld (pv 0) rfl))
    (pss_cons (ps_expr (pe_meth0 (pv 0) X.cl_De X.m_De_look_closed G_De_look_closed (hr.mono (by decide)) b_De_look_closed .nil passE))
    (pss_cons (ps_expr (pe_call G_f_refuse_if (hr.mono (by decide)) rfl X.g_f_refuse_if X.k_f_refuse_if b_f_refuse_if .nil passE (pa_cons (pe_cmpR op_lt (pe_fld (pv 1) rfl) (pe_ix ix_list (pe_fld (pe_fld (pv 1) rfl) rfl) pe_int (fun _ _ => rfl)) (nomark _)) (pa_cons (pe_un un_neg pe_int) pa_nil))))
    (pss_cons (ps_expr (pe_meth (pv 0) X.cl_De X.m_De_look_entries G_De_look_entries (hr.mono (by decide)) b_De_look_entries .nil passE (pa_cons (pe_callB call_len_seq (by rfl) X.b_len PySem.boot_len (pa_cons (pe_fld (pv 1) rfl) pa_nil)) pa_nil)))
    (pss_cons (ps_expr (pe_meth0 (pv 1) X.cl_St X.m_St_close G_St_close (hr.mono (by decide)) b_St_close .nil pass0))
    (pss_cons (ps_set (i := 2) sc_De_close.nd rfl (Or.inl rfl) (pe_lst pa_nil))
    (pss_cons (ps_for (passes_of rfl) rfl (pi_list (pe_fld (pv 1) rfl)) (pg_name (i := 3) sc_De_close.nd rfl (Or.inl rfl))
      (pss_one (ps_set (i := 2) sc_De_close.nd rfl (Or.inl rfl) (pe_op op_cat (pv 2) (pe_lst (pa_cons (pe_fld (pv 3) rfl) (pa_cons (pe_fld (pv 3) rfl) (pa_cons (pe_meth (pv 1) X.cl_St X.m_St_missing G_St_missing (hr.mono (by decide)) b_St_missing .nil pass0 (pa_cons (pv 3) pa_nil)) pa_nil))))))))
    (pss_cons (ps_set (i := 4) sc_De_close.nd rfl (Or.inl rfl) (pe_meth0 (pv 1) X.cl_St X.m_St_taken G_St_taken (hr.mono (by decide)) b_St_taken .nil pass0))
    (pss_one (ps_ret (pe_call G_f_with_rows (hr.mono (by decide)) rfl X.g_f_with_rows X.k_f_with_rows b_f_with_rows .nil pass0 (pa_cons (pv 4) (pa_cons (pe_lst (pa_cons (pe_lst (pa_cons (pe_op op_mod (pe_op op_sub pe_int (pv 4)) (pe_ix ix_list (pe_fld (pe_fld (pv 1) rfl) rfl) pe_int (fun _ _ => rfl))) pa_nil)) (pa_cons (pv 2) pa_nil))) pa_nil))))))))))))), ?_⟩), F.binds fun _ _ _ _ _ _ us hl => match us, hl with | [_], _ => rfl⟩
  · obtain ⟨_, _, _, rfl, _⟩ := h
    rfl
  · obtain ⟨d, L, m, rfl, c, b, dq⟩ := h
    refine q_asg (ev_De_state X c.ob (ev_var rfl)) fun H1 e1 => ?_
    refine q_lookc (c.ex e1) (dq.ex e1) (ev_var rfl) fun _ H2 e2 c dq => ?_
    refine q_ref c dq (ev_i0 (ev_St_day X c.st.st (ev_var rfl)) (ev_ix0 (ev_Ru_begin X c.st.bd.ru.ob (ev_St_rules X c.st.st (ev_var rfl))) c.st.bd.ru.begin_)) (ev_neg ev_c) fun _ H3 e3 c dq => ?_
    have hlen : (refs L.ss).length = m.schools.length := (refs_len _).trans c.st.bd.ss.len
    refine q_looke c dq (ev_var rfl) (ev_is (ev_len (ev_St_schools X c.st.st (ev_var rfl)) (SqL.of c.st.bd.sl)) (congrArg (fun n : Nat => V.int (n : Int)) hlen)) fun H4 e4 c dq => ?_
    refine q_meth (ev_var rfl) c.st.st (no_St_close _ _) ea_nil fun H5 e5 => ⟨L, m, rfl, c.st.ex e5, b, fun H6 L6 h6 s6 ss6 f6 => ?_⟩
    have c6 := (c.ex e5).of f6 h6 s6
    have k := dq.fin (Fr.of_ex e5 f6.desk) c6
    generalize hm' : m.closeAll = m' at c6 k h6
    have hrules : m'.rules = m.rules := by rw [← hm']; rfl
    have hsl : m'.schools.length = m.schools.length := by rw [← hm']; show (m.schools.map _).length = _; rw [List.length_map]
    have few := b.few
    refine q_asgL (el_lst ea_nil (by decide)) fun q H7 hq e7 l7 => ?_
    have st6 : At H6 L.st A.St (stF L6 m') := s6 ▸ h6.st
    refine q_forLn (ev_St_schools X (st6.ex e7) (ev_var rfl)) (SqL.of (e7 _ _ h6.bd.sl)) (fun i σ' H' => (∃ q u, σ' = [some (.ref d), some (.ref L.st), some (.ref q), u, none] ∧ H' q = some (.lst (iV (rowsC m.rules m'.schools i)))) ∧ Ex H6 H' ∧ (rowsC m.rules m'.schools i).length = 3 * min i m'.schools.length)
      (fun H8 e8 => ⟨⟨q, _, rfl, e8 _ _ l7⟩, e7.trans e8, by show 0 = _; rw [Nat.zero_min]⟩) (fun i σ' H' _ z => SqL.of (z.2.1 _ _ h6.bd.sl)) (fun i x σ' H' hx z => ?_) fun σ' H' z => ?_
    · obtain ⟨⟨q, u, rfl, lq⟩, e, hlen2⟩ := z
      obtain ⟨a, ha, rfl⟩ := refs_get hx
      obtain ⟨s, hs⟩ := get_len h6.bd.ss.len ha
      have hat := (h6.bd.ss.ob i a s ha hs).ex e
      have hi : i < m'.schools.length := (List.getElem?_eq_some_iff.mp hs).1
      have tk : rowsC m.rules m'.schools (i + 1) = rowsC m.rules m'.schools i ++ [s.number, s.has, m.rules.missing s] := by
        unfold rowsC
        rw [List.take_succ, hs, List.flatMap_append]
        show _ ++ ([s].flatMap _) = _
        rw [List.flatMap_singleton]
      refine s_asgL (el_cat (x_of (ev_var rfl) lq) (x_of_L (el_lst (ea_cons (ev_Sc_number X hat (ev_var rfl)) (ea_cons (ev_Sc_has X hat (ev_var rfl)) (ea_cons (ev_meth (ev_var rfl) (st6.ex e) (no_St_missing _ _) (ea_cons (ev_var rfl) ea_nil) fun H8 e8 Q' q' E' => ⟨L6, m', a, s, by rw [s6]; rfl, h6.ex (e.trans e8), by rw [hrules]; exact ⟨b.each, b.many⟩, hat.ex e8, by rw [hrules]; exact q'⟩) ea_nil))) (by show 3 ≤ 100000; decide))) (by rw [iV_len]; show _ + 3 ≤ 10000000; omega)) fun q2 H8 hq2 e8 l8 => ?_
      refine ⟨⟨q2, _, rfl, ?_⟩, e.trans e8, ?_⟩
      · rw [l8, tk, ← iV_app]
        rfl
      · rw [tk, List.length_append]
        show _ + 3 = _
        omega
    · obtain ⟨⟨q, u, rfl, lq⟩, e, hlen2⟩ := z
      have h8 := h6.ex e
      have st8 := st6.ex e
      have hss : (refs L6.ss).length = m'.schools.length := (refs_len _).trans h6.bd.ss.len
      have eall : rowsC m.rules m'.schools (refs L6.ss).length = m'.schools.flatMap fun s => [s.number, s.has, m.rules.missing s] := by
        unfold rowsC
        rw [hss, List.take_length]
      refine q_asg (v := .int m'.taken) (ev_meth (ev_var rfl) st8 (no_St_taken _ _) ea_nil fun H9 e9 Q' q' E' => ⟨L6, m', by rw [s6]; rfl, h8.ex e9, by omega, q'⟩) fun H9 e9 => ?_
      have h9 := h8.ex e9
      have st9 := st8.ex e9
      have hform : 0 < m'.rules.form := by rw [hrules]; rcases b.form with f | f <;> omega
      refine s_retWR (rs := [[(0 - m'.taken) % m'.rules.form], rowsC m.rules m'.schools (refs L6.ss).length]) (ev_var rfl) (er_two (ev_iC (ev_i0 ev_c (ev_var rfl)) (ev_ix0 (ev_Ru_form X h9.bd.ru.ob (ev_St_rules X st9 (ev_var rfl))) h9.bd.ru.form) hform) (ev_var rfl) (e9 _ _ lq)) (by show 2 ≤ 100; decide) (fun r hr => ?_) ?_
      · rcases List.mem_cons.mp hr with z | z
        · rw [z]; show 1 ≤ 1000; decide
        · have : r = rowsC m.rules m'.schools (refs L6.ss).length := by simpa using z
          rw [this]
          omega
      · rw [eall, hrules]
        exact fun p3 H3 hp3 e3 l3 => k p3 H3 (fresh_back (e.trans e9) hp3) ((e.trans e9).trans e3) l3
end
end Eh

-- EhW14
set_option Elab.async false
set_option linter.all false
set_option maxRecDepth 100000
set_option maxHeartbeats 4000000
namespace Eh
open PySem PySem.Spec PyProof.Rows L2 EhR EhZ Evl
theorem all_empty {α : Type} (l : List α) (p : α → Bool) : (l.filter fun b => !p b).isEmpty = l.all p := by
  induction l with
  | nil => rfl
  | cons a r ih =>
    rw [List.filter_cons, List.all_cons]
    cases p a with
    | true => exact ih
    | false => rfl
theorem okText_bys {row : List Int} (h : okText row = true) : row.length ≤ 1000 ∧ iV row = bys (row.map Int.toNat) := by
  unfold okText at h
  rw [Bool.not_eq_true', Bool.or_eq_false_iff] at h
  obtain ⟨h1, h2⟩ := h
  have h3 := of_decide_eq_false h1
  rw [Bool.not_eq_false', List.all_eq_true] at h2
  refine ⟨by omega, ?_⟩
  rw [bys_iV, List.map_map]
  congr 1
  rw [List.map_congr_left (g := id), List.map_id]
  intro x hx
  have := h2 x hx
  rw [Bool.and_eq_true] at this
  have := of_decide_eq_true this.1
  show ((x.toNat : Nat) : Int) = x
  omega
theorem row8 {r : MR} {i : Nat} {ns : List Int} (h : r.rows[i]? = some ns) (hi : i < 8) : ns.length ≤ 2 := by
  unfold MR.rows at h
  match i, hi, h with
  | 0, _, h => cases h; show 1 ≤ 2; decide
  | 1, _, h => cases h; show 1 ≤ 2; decide
  | 2, _, h => cases h; show 1 ≤ 2; decide
  | 3, _, h => cases h; show 2 ≤ 2; decide
  | 4, _, h => cases h; show 1 ≤ 2; decide
  | 5, _, h => cases h; show 1 ≤ 2; decide
  | 6, _, h => cases h; show 1 ≤ 2; decide
  | 7, _, h => cases h; show 1 ≤ 2; decide
  | i + 8, hi, _ => omega
theorem cut8 {rl : List Addr} (h : rl.length = 9) : cutV (refs rl) none (some (-1)) = refs (rl.take 8) := by
  match rl, h with
  | [a0, a1, a2, a3, a4, a5, a6, a7, a8], _ => rfl
theorem foot_newRu {L : Lay} {p b : Addr} {rl : List Addr} (h : b ∈ foot { L with ru := p, rl := rl }) : b ∈ foot L ∨ b = p ∨ b ∈ rl := by
  rcases mem_foot.mp h with e | e
  · exact .inl (mem_foot.mpr (.inl e))
  · rcases mem_bfoot.mp e with q | q | q | q | q | q
    · exact .inr (.inl q)
    · exact .inl (mem_foot.mpr (.inr (mem_bfoot.mpr (.inr (.inl q)))))
    · exact .inl (mem_foot.mpr (.inr (mem_bfoot.mpr (.inr (.inr (.inl q))))))
    · exact .inr (.inr q)
    · exact .inl (foot_ss q)
    · exact .inl (foot_of q)
section
variable {K : PySem.W.Frag} {mg : Str → Option Value} {A : Ads} {σ : L2.St} {H : Hp} {ta tb te tv tl : TE} {D : Ends} {tz tu : TS}
theorem ev_xf {a dd C : Addr} {f : Str} {fs : List (Str × V)} {v : V} (ha : Ev te σ H (.ref a)) (h : H dd = some (.xd fs)) (l : fs.lookup f = some v) : Ev (tXf a (.ref C) (some dd) C f te) σ H v := fun H1 e Q q =>
  ha H1 e _ fun H2 e2 => ⟨rfl, rfl, dd, fs, v, rfl, (e.trans e2) _ _ h, l, q H2 e2⟩
theorem el_slL {xs : List V} {t0 t1 : TO} {lo hi : Option Int} (h : EvL te σ H xs) (h1 : EvO t0 σ H lo) (h2 : EvO t1 σ H hi) : EvL (tSl (rSlL K) te t0 t1) σ H (cutV xs lo hi) := fun H1 e Q q =>
  h H1 e _ fun p H2 hp e2 l2 => by
    have := el_sl (K := K) (te := tC (.ref p)) (tl := t0) (th := t1) (σ := σ) (H := H2) ev_c (fun H3 e3 Q q => h1 H3 ((e.trans e2).trans e3) Q q) (fun H3 e3 Q q => h2 H3 ((e.trans e2).trans e3) Q q) (SqL.of l2)
    exact this H2 (Ex.refl _) Q fun p3 H3 hp3 e3 l3 => q p3 H3 (fresh_back e2 hp3) (e2.trans e3) l3
end
section
variable {P : Program} {w : World} {K : PySem.W.Frag} {mg : Str → Option Value} {base : Heap} {A : Ads}
def sp_De_put_rules (K : PySem.W.Frag) (A : Ads) : Sp := fun vs H Q E => ∃ (d : Addr) (L : Lay) (m : M) (a : Addr) (row : List Int), vs = [.ref d, .ref a] ∧ DAt A H d L m ∧ H a = some (.lst (iV row)) ∧ DeskQ A E H d L Q (putRulesM m row)
theorem ok_De_put_rules (X : Tx K mg A) : Okd P w K mg base (L2.CX P w) 5 A.De_put_rules ["self", "text"] (sp_De_put_rules K A) := by
  obtain ⟨fd_Ru_rows, G_Ru_rows, b_Ru_rows⟩ := ok_Ru_rows (P := P) (w := w) (base := base) X
  obtain ⟨fd_f_rules_of, G_f_rules_of, b_f_rules_of⟩ := ok_f_rules_of (P := P) (w := w) (base := base) X
  obtain ⟨fd_f_refuse_if, G_f_refuse_if, b_f_refuse_if⟩ := ok_f_refuse_if (P := P) (w := w) (base := base) X
  obtain ⟨fd, F⟩ := X.fn_De_put_rules
  refine ⟨fd, F.okX sc_De_put_rules (fun vs H Q E h => ?_) (fun cdv A' outer s H vs Q E hr h => ⟨_, (pss_cons (ps_expr (pe_call G_f_refuse_if (hr.mono (by decide)) rfl X.g_f_refuse_if X.k_f_refuse_if b_f_refuse_if .nil passE (pa_cons (pe_or (pe_cmpR op_gt (pe_callB call_len_seq (by rfl) X.b_len PySem.boot_len (pa_cons (pv 1) pa_nil)) (pe_gi rfl X.c_MOST_TEXT) (nomark _)) (pe_one (pe_cmpR (op_neNil (hu64 hr)) (pe_lc (own := [("byte", 7)]) (g := gName 7) rfl sc_De_put_rules.nd (pi_list (pv 1)) (blkOk_by (N := ["self", "text", "state", "rules", "e", "found", "row", "byte"]) (sc := defScope s_De_put_rules) (own := [("byte", 7)]) (by decide +kernel)) (fun _ _ _ _ _ => pg_name (i := 7) sc_De_put_rules.nd rfl (.inl rfl)) (fun _ _ _ _ _ => (pts_one (pt_not (pt_chain op_le op_le pe_int (pv 7) pe_int)))) (fun _ _ _ _ _ => (pv 7))) (pe_lst pa_nil) (nomark _)))) (pa_cons (pe_un un_neg pe_int) pa_nil))))
    (pss_cons (ps_set (i := 2) sc_De_put_rules.nd rfl (Or.inl rfl) (pe_fld (pv 0) rfl))
    (pss_cons (ps_expr (pe_call G_f_refuse_if (hr.mono (by decide)) rfl X.g_f_refuse_if X.k_f_refuse_if b_f_refuse_if .nil passE (pa_cons (pe_or (pe_cmpR (op_neNil (hu64 hr)) (pe_fld (pv 2) rfl) (pe_lst pa_nil) (nomark _)) (pe_or (pe_cmpR op_ne (pe_fld (pv 2) rfl) pe_int (nomark _)) (pe_one (pe_fld (pv 2) rfl)))) (pa_cons (pe_un un_neg pe_int) pa_nil))))
    (pss_cons (ps_try_as (i := 4) (Wout := fun _ _ _ _ => False) rfl rfl sc_De_put_rules.nd rfl rfl ⟨rfl, by decide, .inl X.g_Wr⟩ takes0
      (fun W pn xe tk _ => (pss_one (ps_set (i := 3) sc_De_put_rules.nd rfl (Or.inl rfl) (pe_callS G_f_rules_of (hr.mono (by decide)) rfl X.g_f_rules_of X.k_f_rules_of b_f_rules_of (fun σ => passAt tk σ) (by exact (pa_cons (pv 1) pa_nil))))))
      (fun a oe cls d pn hz hf => (pss_one (ps_ret (pe_lst (pa_cons pe_int (pa_cons (pe_xf X.xf_Wr X.na_Wr_kind hz hf (pv 4)) (pa_cons (pe_xf X.xf_Wr X.na_Wr_row hz hf (pv 4)) pa_nil))))))))
    (pss_cons (ps_fld (pv 2) (pv 3) rfl)
    (pss_cons (ps_set (i := 5) sc_De_put_rules.nd rfl (Or.inl rfl) (pe_lst (pa_cons pe_int pa_nil)))
    (pss_cons (ps_for (passes_of rfl) rfl (pi_list (pe_slice sl_list (pe_meth0 (pv 3) X.cl_Ru X.m_Ru_rows G_Ru_rows (hr.mono (by decide)) b_Ru_rows .nil pass0) po_none (po_some (pe_un un_neg pe_int)))) (pg_name (i := 6) sc_De_put_rules.nd rfl (Or.inl rfl))
      (pss_one (ps_set (i := 5) sc_De_put_rules.nd rfl (Or.inl rfl) (pe_op op_cat (pv 5) (pv 6)))))
    (pss_one (ps_ret (pv 5)))))))))), ?_⟩), F.binds fun _ _ _ _ _ _ us hl => match us, hl with | [_, _], _ => rfl⟩
  · obtain ⟨_, _, _, _, _, rfl, _⟩ := h
    rfl
  · obtain ⟨d, L, m, a, row, rfl, c, ha, dq⟩ := h
    have hal : (iV row).length = row.length := iV_len row
    refine q_ref c dq (ev_is (ev_orV (b := !(row.all fun b => decide (0 ≤ b) && decide (b ≤ 255))) (ev_i0 (ev_is (ev_len (ev_var rfl) (SqL.of ha)) (congrArg (fun n : Nat => V.int (n : Int)) hal)) ev_c) fun hs => ?_) ?_) (ev_neg ev_c) fun hok H1 e1 c dq => ?_
    · have hs' := of_decide_eq_false hs
      have ev := el_lcM (K := K) (tl := tVar 1) (t := tNot (tTest (tChain (rI0 fun i j => .bl (decide (i ≤ j))) (rI0 fun i j => .bl (decide (i ≤ j))) (tC (.int 0)) (tVar 7) (tC (.int 255))))) (te := tVar 7) (σ := start ["self", "text", "state", "rules", "e", "found", "row", "byte"] [.ref d, .ref a]) (j := 7) (vs := [7]) (H := H) (F := V.int) 0 (fun b : Int => !(decide (0 ≤ b) && decide (b ≤ 255))) V.int (ev_var rfl) (SqL.of ha : SqL K H a (row.map V.int)) (by omega) (fun _ => rfl)
        (fun n i H1 e hn => et_not (et_test (ev_chain ev_c (ev_var rfl) ev_c))) (fun n i H1 e hn _ => ev_var rfl)
      refine ev_is (ev_nilL ev) (congrArg V.bl ?_)
      show (!((row.filter fun b : Int => !(decide (0 ≤ b) && decide (b ≤ 255))).map V.int).isEmpty) = _
      rw [List.isEmpty_map, all_empty]
    · refine congrArg V.bl ?_
      unfold okText
      rw [Bool.not_not]
    have hok' : okText row = true := by
      revert hok
      cases okText row with
      | true => intro _; rfl
      | false => intro z; cases z
    obtain ⟨hl, hbys⟩ := okText_bys hok'
    refine q_asg (ev_De_state X c.ob (ev_var rfl)) fun H2 e2 => ?_
    have st := (c.ex e2).st
    refine q_ref (c.ex e2) (dq.ex e2) (ev_orV (ev_is (ev_nil (ev_St_schools X st.st (ev_var rfl)) (SqL.of st.bd.sl)) (congrArg V.bl (show (!(refs L.ss).isEmpty) = !m.schools.isEmpty from by
      have hsl := st.bd.ss.len
      cases hc : m.schools with
      | nil => rw [hc] at hsl; cases hd : L.ss with
        | nil => rfl
        | cons => rw [hd] at hsl; cases hsl
      | cons => rw [hc] at hsl; cases hd : L.ss with
        | nil => rw [hd] at hsl; cases hsl
        | cons => rfl))) fun _ => ev_orV (ev_neI (ev_St_day X st.st (ev_var rfl)) ev_c) fun _ => ev_St_is_closed X st.st (ev_var rfl)) (ev_neg ev_c) fun _ H3 e3 c dq => ?_
    have ha3 : H3 a = some (.lst (bys (row.map Int.toNat))) := by rw [← hbys]; exact ((e1.trans e2).trans e3) _ _ ha
    refine (ea_cons (ev_var rfl) ea_nil : EvA (tCons (tVar 1) tNil) [some (.ref d), some (.ref a), some (.ref L.st), none, none, none, none, none] H3 [.ref a]) H3 (Ex.refl H3) (fun vs H4 => sp_f_rules_of K A vs H4 (fun v H5 => gName 3 v [some (.ref d), some (.ref a), some (.ref L.st), none, none, none, none, none] H5 _) _) fun H4 e4 => ⟨a, row.map Int.toNat, rfl, e4 _ _ ha3, by rw [List.length_map]; exact hl, ?_⟩
    cases hr : rulesM (row.map Int.toNat) with
    | error x =>
      rw [hr] at dq
      have dq' : DeskQ A E H3 d L Q (.ok (m, [1, x.1, x.2])) := dq
      intro H5 dd e5 h5
      refine ⟨true, X.te_Wr, fun _ ea hea => ?_, fun z => by cases z⟩
      have e45 := e4.trans e5
      exact s_retL (el_lst (ea_cons ev_c (ea_cons (ev_xf (ev_var rfl) h5 (by rfl)) (ea_cons (ev_xf (ev_var rfl) h5 (by rfl)) ea_nil))) (by show 3 ≤ 100000; decide)) ((dq'.ex e45).fin (Fr.refl _ _) (c.ex e45))
    | ok r =>
      rw [hr] at dq
      have dq' : DeskQ A E H3 d L Q (.ok ({ m with rules := r }, 0 :: r.rows.dropLast.flatten)) := dq
      intro p H5 rl e5 hru hp hrl
      have e45 := e4.trans e5
      have c5 := c.ex e45
      have hp3 : H3 p = none := fresh_back e4 hp
      have hrl3 : ∀ b ∈ rl, H3 b = none := fun b hb => fresh_back e4 (hrl b hb)
      refine q_st (ev_var rfl) (ev_var rfl) c5.st.st X.cl_St X.na_St_rules (by show 7 < 1000; decide) fun H6 dx e6 _ => ?_
      rw [pt_St_rules]
      have c6 := c5.ex e6
      have ru6 := hru.ex e6
      have nsl : L.sl ∉ rl := fun z => by have := hrl3 _ z; rw [c.st.bd.sl] at this; cases this
      have nol : L.ol ∉ rl := fun z => by have := hrl3 _ z; rw [c.st.bd.ol] at this; cases this
      have h7 : StAt A (upd H6 L.st (.ins A.St dx (stF { L with ru := p, rl := rl } { m with rules := r }))) { L with ru := p, rl := rl } { m with rules := r } := c6.st.setSt (L' := { L with ru := p, rl := rl }) (m' := { m with rules := r }) rfl (c6.st.bd.newRu ru6 nsl nol)
      have f7 : Fr H3 (upd H6 L.st (.ins A.St dx (stF { L with ru := p, rl := rl } { m with rules := r }))) (foot L) (foot { L with ru := p, rl := rl }) := Fr.exWrite (e45.trans e6) (foot_st L) fun b hb => by
        rcases foot_newRu hb with q | q | q
        · exact .inl q
        · exact .inr (q ▸ hp3)
        · exact .inr (hrl3 b q)
      have e0 : upd H6 L.st (.ins A.St dx (stF { L with ru := p } m)) = upd H6 L.st (.ins A.St dx (stF { L with ru := p, rl := rl } { m with rules := r })) := rfl
      rw [e0]
      generalize upd H6 L.st (.ins A.St dx (stF { L with ru := p, rl := rl } { m with rules := r })) = H7 at h7 f7
      have c7 := c.of f7 h7 rfl
      have k := dq'.fin f7.desk c7
      refine q_asgL (el_lst (ea_cons ev_c ea_nil) (by show 1 ≤ 100000; decide)) fun q H8 hq e8 l8 => ?_
      have ru8 : RuAt A H8 p rl r := h7.bd.ru.ex e8
      have ev := el_slL (K := K) (t0 := tNoPart) (t1 := tPart (tUn (rU fun i => .int (-i)) (tC (.int 1)))) (el_meth (ev_var rfl : Ev (tVar 3) [some (.ref d), some (.ref a), some (.ref L.st), some (.ref p), none, some (.ref q), none, none] H8 (.ref p)) ru8.ob (no_Ru_rows _) ea_nil (sp := sp_Ru_rows K A) (E := E0) fun H9 e9 Q' q' E' => ⟨p, rl, r, rfl, ru8.ex e9, q'⟩) eo_none (eo_some (ev_neg ev_c))
      rw [cut8 ru8.len] at ev
      have len8 : (refs (rl.take 8)).length = 8 := by rw [refs_len, List.length_take, ru8.len]; rfl
      refine q_forNLn ev (fun pl i σ' H' => (∃ q u, σ' = [some (.ref d), some (.ref a), some (.ref L.st), some (.ref p), none, some (.ref q), u, none] ∧ H7 q = none ∧ H' q = some (.lst (iV (0 :: (r.rows.take i).flatten)))) ∧ Ex H7 H' ∧ H' pl = some (.lst (refs (rl.take 8))) ∧ (r.rows.take i).flatten.length ≤ 2 * i)
        (fun pl H9 hpl e9 l9 => ⟨⟨q, _, rfl, hq, e9 _ _ l8⟩, e8.trans e9, l9, Nat.le_refl _⟩) (fun pl i σ' H' _ z => SqL.of z.2.2.1) (fun pl i x σ' H' hx z => ?_) fun pl σ' H' z => ?_
      · obtain ⟨⟨q, u, rfl, hq, lq⟩, e, lpl, hlen⟩ := z
        obtain ⟨b, hb, rfl⟩ := refs_get hx
        have hi : i < 8 := by
          have := (List.getElem?_eq_some_iff.mp hx).1
          omega
        have hb' : rl[i]? = some b := by
          rw [List.getElem?_take] at hb
          rw [if_pos hi] at hb
          exact hb
        obtain ⟨ns, hns⟩ := get_len (k := r.rows) (by rw [ru8.len, rows_len]) hb'
        have hbn := e _ _ (h7.bd.ru.rows i b ns hb' hns)
        have h2 := row8 hns hi
        have tk : (r.rows.take (i + 1)).flatten = (r.rows.take i).flatten ++ ns := by
          rw [List.take_succ, hns, List.flatten_append]
          show _ ++ [ns].flatten = _
          rw [List.flatten_singleton]
        refine s_asgL (el_cat (x_of (ev_var rfl) lq) (x_of (ev_var rfl) hbn) (by rw [iV_len, iV_len, List.length_cons]; omega)) fun q2 H9 hq2 e9 l9 => ?_
        refine ⟨⟨q2, _, rfl, fresh_back e hq2, ?_⟩, e.trans e9, e9 _ _ lpl, ?_⟩
        · rw [l9, tk, iV_app]
          rfl
        · rw [tk, List.length_append]
          omega
      · obtain ⟨⟨q, u, rfl, hq, lq⟩, e, lpl, hlen⟩ := z
        rw [len8] at lq
        exact s_ret (ev_var rfl) fun H9 e9 => k q H9 hq (e.trans e9) (e9 _ _ lq)
end
end Eh

-- EhW15
set_option Elab.async false
set_option linter.all false
set_option maxRecDepth 100000
set_option maxHeartbeats 4000000
namespace Eh
open PySem PySem.Spec PyProof.Rows L2 EhR EhZ Evl
theorem Bounds.rowsOk {m : M} (b : Bounds m) : ∀ ns ∈ m.rules.rows, RowOk ns := by
  intro ns h
  unfold MR.rows at h
  simp only [List.mem_cons, List.not_mem_nil, or_false] at h
  have h1 := b.pl; have h2 := b.form; have h3 := b.cap; have h4 := b.each; have h5 := b.many; have h6 := b.fee; have h7 := b.fine; have h8 := b.answer; have h9 := b.begin_
  rcases h with z | z | z | z | z | z | z | z | z <;> subst z
  case inr.inr.inr.inr.inr.inr.inr.inr => exact ⟨b.back.1, fun n hn => by have := b.back.2.2 n hn; omega⟩
  all_goals
    refine ⟨by simp, fun n hn => ?_⟩
    simp only [List.mem_cons, List.not_mem_nil, or_false] at hn
    omega
theorem shTo_len {r : MR} (hb : ∀ ns ∈ r.rows, RowOk ns) : ∀ i, i ≤ 9 → (shTo r i).length ≤ 101 * i
  | 0, _ => Nat.le_refl _
  | i + 1, hi => by
    have ih := shTo_len hb i (by omega)
    have hns : r.rows[i]? = some (r.rows[i]'(by rw [rows_len]; omega)) := List.getElem?_eq_getElem _
    generalize r.rows[i]'(by rw [rows_len]; omega) = ns at hns
    have := (lineB_len (k := i) (by omega) (hb ns (List.mem_of_getElem? hns))).1
    rw [shTo_succ hns]
    split
    · omega
    · rw [List.length_append, List.length_append]
      show _ + (1 + _) ≤ _
      omega
theorem shownM_len {r : MR} (hb : ∀ ns ∈ r.rows, RowOk ns) : (shownM r).length ≤ 909 := by
  rw [← shTo_all, List.length_map]
  exact shTo_len hb 9 (Nat.le_refl _)
section
variable {P : Program} {w : World} {K : PySem.W.Frag} {mg : Str → Option Value} {base : Heap} {A : Ads}
def sp_f_first_told (K : PySem.W.Frag) (A : Ads) : Sp := fun vs H Q E => ∃ (d : Addr) (L : Lay) (m : M) (cc : Int) (na : Addr) (ns : List Int) (ra : Addr) (row : List Int), vs = [.ref d, .int cc, .ref na, .ref ra] ∧ DAt A H d L m ∧ Good m ∧ H na = some (.lst (iV ns)) ∧ H ra = some (.lst (iV row)) ∧ (0 ≤ cc ∧ cc ≤ 9) ∧ ns.length = arity cc ∧ DeskQ A E H d L Q (firstM m cc ns row)
theorem ok_f_first_told (X : Tx K mg A) : Okd P w K mg base (L2.CX P w) 6 A.f_first_told ["desk", "call", "numbers", "row"] (sp_f_first_told K A) := by
  obtain ⟨fd_De_transfer, G_De_transfer, b_De_transfer⟩ := ok_De_transfer (P := P) (w := w) (base := base) X
  obtain ⟨fd_De_drop, G_De_drop, b_De_drop⟩ := ok_De_drop (P := P) (w := w) (base := base) X
  obtain ⟨fd_De_decline, G_De_decline, b_De_decline⟩ := ok_De_decline (P := P) (w := w) (base := base) X
  obtain ⟨fd_De_accept, G_De_accept, b_De_accept⟩ := ok_De_accept (P := P) (w := w) (base := base) X
  obtain ⟨fd_De_bring, G_De_bring, b_De_bring⟩ := ok_De_bring (P := P) (w := w) (base := base) X
  obtain ⟨fd_De_want, G_De_want, b_De_want⟩ := ok_De_want (P := P) (w := w) (base := base) X
  obtain ⟨fd_De_enter, G_De_enter, b_De_enter⟩ := ok_De_enter (P := P) (w := w) (base := base) X
  obtain ⟨fd_Ru_shown, G_Ru_shown, b_Ru_shown⟩ := ok_Ru_shown (P := P) (w := w) (base := base) X
  obtain ⟨fd_De_put_rules, G_De_put_rules, b_De_put_rules⟩ := ok_De_put_rules (P := P) (w := w) (base := base) X
  obtain ⟨fd_De_clear, G_De_clear, b_De_clear⟩ := ok_De_clear (P := P) (w := w) (base := base) X
  obtain ⟨fd, F⟩ := X.fn_f_first_told
  refine ⟨fd, F.okX sc_f_first_told (fun vs H Q E h => ?_) (fun cdv A' outer s H vs Q E hr h => ⟨_, (pss_cons (ps_if (pt_cmpR op_eq (pv 1) (pe_gi rfl X.c_CLEAR) (nomark _))
      (pss_one (ps_ret (pe_meth0 (pv 0) X.cl_De X.m_De_clear G_De_clear (hr.mono (by decide)) b_De_clear .nil pass0)))
      pss_nil)
    (pss_cons (ps_if (pt_cmpR op_eq (pv 1) (pe_gi rfl X.c_RULES) (nomark _))
      (pss_one (ps_ret (pe_meth (pv 0) X.cl_De X.m_De_put_rules G_De_put_rules (hr.mono (by decide)) b_De_put_rules .nil passE (pa_cons (pv 3) pa_nil))))
      pss_nil)
    (pss_cons (ps_if (pt_cmpR op_eq (pv 1) (pe_gi rfl X.c_SHOW) (nomark _))
      (pss_cons (ps_set (i := 4) sc_f_first_told.nd rfl (Or.inl rfl) (pe_meth0 (pe_fld (pe_fld (pv 0) rfl) rfl) X.cl_Ru X.m_Ru_shown G_Ru_shown (hr.mono (by decide)) b_Ru_shown .nil pass0))
      (pss_one (ps_ret (pe_op op_cat (pe_lst (pa_cons (pe_callB call_len_seq (by rfl) X.b_len PySem.boot_len (pa_cons (pv 4) pa_nil)) pa_nil)) (pv 4)))))
      pss_nil)
    (pss_cons (ps_if (pt_cmpR op_eq (pv 1) (pe_gi rfl X.c_ENTER) (nomark _))
      (pss_one (ps_ret (pe_meth (pv 0) X.cl_De X.m_De_enter G_De_enter (hr.mono (by decide)) b_De_enter .nil passE (pa_cons (pe_ix ix_list (pv 2) pe_int (fun _ _ => rfl)) (pa_cons (pe_ix ix_list (pv 2) pe_int (fun _ _ => rfl)) (pa_cons (pe_ix ix_list (pv 2) pe_int (fun _ _ => rfl)) pa_nil))))))
      pss_nil)
    (pss_cons (ps_if (pt_cmpR op_eq (pv 1) (pe_gi rfl X.c_WANT) (nomark _))
      (pss_one (ps_ret (pe_meth (pv 0) X.cl_De X.m_De_want G_De_want (hr.mono (by decide)) b_De_want .nil passE (pa_cons (pe_ix ix_list (pv 2) pe_int (fun _ _ => rfl)) (pa_cons (pe_ix ix_list (pv 2) pe_int (fun _ _ => rfl)) pa_nil)))))
      pss_nil)
    (pss_cons (ps_if (pt_cmpR op_eq (pv 1) (pe_gi rfl X.c_BRING) (nomark _))
      (pss_one (ps_ret (pe_meth (pv 0) X.cl_De X.m_De_bring G_De_bring (hr.mono (by decide)) b_De_bring .nil passE (pa_cons (pe_ix ix_list (pv 2) pe_int (fun _ _ => rfl)) (pa_cons (pe_ix ix_list (pv 2) pe_int (fun _ _ => rfl)) pa_nil)))))
      pss_nil)
    (pss_cons (ps_if (pt_cmpR op_eq (pv 1) (pe_gi rfl X.c_ACCEPT) (nomark _))
      (pss_one (ps_ret (pe_meth (pv 0) X.cl_De X.m_De_accept G_De_accept (hr.mono (by decide)) b_De_accept .nil passE (pa_cons (pe_ix ix_list (pv 2) pe_int (fun _ _ => rfl)) pa_nil))))
      pss_nil)
    (pss_cons (ps_if (pt_cmpR op_eq (pv 1) (pe_gi rfl X.c_DECLINE) (nomark _))
      (pss_one (ps_ret (pe_meth (pv 0) X.cl_De X.m_De_decline G_De_decline (hr.mono (by decide)) b_De_decline .nil passE (pa_cons (pe_ix ix_list (pv 2) pe_int (fun _ _ => rfl)) pa_nil))))
      pss_nil)
    (pss_cons (ps_if (pt_cmpR op_eq (pv 1) (pe_gi rfl X.c_DROP) (nomark _))
      (pss_one (ps_ret (pe_meth (pv 0) X.cl_De X.m_De_drop G_De_drop (hr.mono (by decide)) b_De_drop .nil passE (pa_cons (pe_ix ix_list (pv 2) pe_int (fun _ _ => rfl)) (pa_cons (pe_ix ix_list (pv 2) pe_int (fun _ _ => rfl)) pa_nil)))))
      pss_nil)
    (pss_one (ps_ret (pe_meth (pv 0) X.cl_De X.m_De_transfer G_De_transfer (hr.mono (by decide)) b_De_transfer .nil passE (pa_cons (pe_ix ix_list (pv 2) pe_int (fun _ _ => rfl)) (pa_cons (pe_ix ix_list (pv 2) pe_int (fun _ _ => rfl)) pa_nil)))))))))))))), ?_⟩), F.binds fun _ _ _ _ _ _ us hl => match us, hl with | [_, _, _, _], _ => rfl⟩
  · obtain ⟨_, _, _, _, _, _, _, _, rfl, _⟩ := h
    rfl
  · obtain ⟨d, L, m, cc, na, ns, ra, row, rfl, c, g, hna, hra, hc, hns, dq⟩ := h
    have f0 : Ex H H := Ex.refl H
    refine q_when (et_test (ev_eqI (ev_var rfl) ev_c)) (fun hb H1 e1 => ?_) (fun hb H1 e1 => ?_)
    · have f1 := f0.trans e1
      obtain rfl := of_decide_eq_true hb
      have dq1 : DeskQ A E H d L Q (.ok (M.fresh, [0])) := dq
      refine q_meth (ev_var rfl) (c.ex f1).ob (no_De_clear _) ea_nil fun H2 e2 => ⟨d, L, m, E, rfl, c.ex (f1.trans e2), dq1.ex (f1.trans e2)⟩
    replace f0 := f0.trans e1
    have n0 := of_decide_eq_false hb
    clear hb
    refine q_when (et_test (ev_eqI (ev_var rfl) ev_c)) (fun hb H1 e1 => ?_) (fun hb H1 e1 => ?_)
    · have f1 := f0.trans e1
      obtain rfl := of_decide_eq_true hb
      have dq1 : DeskQ A E H d L Q (putRulesM m row) := dq
      refine q_meth (ev_var rfl) (c.ex f1).ob (no_De_put_rules _) (ea_cons (ev_var rfl) ea_nil) fun H2 e2 => ⟨d, L, m, ra, row, rfl, c.ex (f1.trans e2), (f1.trans e2) _ _ hra, dq1.ex (f1.trans e2)⟩
    replace f0 := f0.trans e1
    have n1 := of_decide_eq_false hb
    clear hb
    refine q_when (et_test (ev_eqI (ev_var rfl) ev_c)) (fun hb H1 e1 => ?_) (fun hb H1 e1 => ?_)
    · have f1 := f0.trans e1
      obtain rfl := of_decide_eq_true hb
      have dq1 : DeskQ A E H d L Q (.ok (m, ((shownM m.rules).length : Int) :: shownM m.rules)) := dq
      have c1 := c.ex f1
      refine q_asgL (el_meth (ev_St_rules X c1.st.st (ev_De_state X c1.ob (ev_var rfl))) c1.st.bd.ru.ob (no_Ru_shown _) ea_nil fun H2 e2 Q' q E' => ⟨L.ru, L.rl, m.rules, rfl, c1.st.bd.ru.ex e2, g.bounds.rowsOk, q⟩) fun p H2 hp e2 l2 => ?_
      have sl := shownM_len g.bounds.rowsOk
      have f2 := f1.trans e2
      exact s_retL (el_cat (x_of_L (el_lst (ea_cons (ev_is (ev_len (ev_var rfl) (SqL.of l2)) (congrArg (fun n : Nat => V.int (n : Int)) (iV_len _))) ea_nil) (by show 1 ≤ 100000; decide))) (x_of (ev_var rfl) l2) (by rw [iV_len]; show 1 + _ ≤ _; omega)) ((dq1.ex f2).fin (Fr.refl _ _) (c.ex f2))
    replace f0 := f0.trans e1
    have n2 := of_decide_eq_false hb
    clear hb
    refine q_when (et_test (ev_eqI (ev_var rfl) ev_c)) (fun hb H1 e1 => ?_) (fun hb H1 e1 => ?_)
    · have f1 := f0.trans e1
      obtain rfl := of_decide_eq_true hb
      have dq1 : DeskQ A E H d L Q (enterM m (ns.getD 0 0) (ns.getD 1 0) (ns.getD 2 0)) := dq
      refine q_meth (ev_var rfl) (c.ex f1).ob (no_De_enter _) (ea_cons (ev_ixn (ev_var rfl) ev_c (SqL.of (f1 _ _ hna)) (by decide) (iV_get (i := 0) (by rw [hns]; decide))) (ea_cons (ev_ixn (ev_var rfl) ev_c (SqL.of (f1 _ _ hna)) (by decide) (iV_get (i := 1) (by rw [hns]; decide))) (ea_cons (ev_ixn (ev_var rfl) ev_c (SqL.of (f1 _ _ hna)) (by decide) (iV_get (i := 2) (by rw [hns]; decide))) ea_nil))) fun H2 e2 => ⟨d, L, m, _, _, _, rfl, c.ex (f1.trans e2), g.bounds, dq1.ex (f1.trans e2)⟩
    replace f0 := f0.trans e1
    have n3 := of_decide_eq_false hb
    clear hb
    refine q_when (et_test (ev_eqI (ev_var rfl) ev_c)) (fun hb H1 e1 => ?_) (fun hb H1 e1 => ?_)
    · have f1 := f0.trans e1
      obtain rfl := of_decide_eq_true hb
      have dq1 : DeskQ A E H d L Q (wantM m (ns.getD 0 0) (ns.getD 1 0)) := dq
      refine q_meth (ev_var rfl) (c.ex f1).ob (no_De_want _) (ea_cons (ev_ixn (ev_var rfl) ev_c (SqL.of (f1 _ _ hna)) (by decide) (iV_get (i := 0) (by rw [hns]; decide))) (ea_cons (ev_ixn (ev_var rfl) ev_c (SqL.of (f1 _ _ hna)) (by decide) (iV_get (i := 1) (by rw [hns]; decide))) ea_nil)) fun H2 e2 => ⟨d, L, m, _, _, rfl, c.ex (f1.trans e2), g.bounds, dq1.ex (f1.trans e2)⟩
    replace f0 := f0.trans e1
    have n4 := of_decide_eq_false hb
    clear hb
    refine q_when (et_test (ev_eqI (ev_var rfl) ev_c)) (fun hb H1 e1 => ?_) (fun hb H1 e1 => ?_)
    · have f1 := f0.trans e1
      obtain rfl := of_decide_eq_true hb
      have dq1 : DeskQ A E H d L Q (bringM m (ns.getD 0 0) (ns.getD 1 0)) := dq
      refine q_meth (ev_var rfl) (c.ex f1).ob (no_De_bring _) (ea_cons (ev_ixn (ev_var rfl) ev_c (SqL.of (f1 _ _ hna)) (by decide) (iV_get (i := 0) (by rw [hns]; decide))) (ea_cons (ev_ixn (ev_var rfl) ev_c (SqL.of (f1 _ _ hna)) (by decide) (iV_get (i := 1) (by rw [hns]; decide))) ea_nil)) fun H2 e2 => ⟨d, L, m, _, _, rfl, c.ex (f1.trans e2), g.bounds, dq1.ex (f1.trans e2)⟩
    replace f0 := f0.trans e1
    have n5 := of_decide_eq_false hb
    clear hb
    refine q_when (et_test (ev_eqI (ev_var rfl) ev_c)) (fun hb H1 e1 => ?_) (fun hb H1 e1 => ?_)
    · have f1 := f0.trans e1
      obtain rfl := of_decide_eq_true hb
      have dq1 : DeskQ A E H d L Q (acceptM m (ns.getD 0 0)) := dq
      refine q_meth (ev_var rfl) (c.ex f1).ob (no_De_accept _) (ea_cons (ev_ixn (ev_var rfl) ev_c (SqL.of (f1 _ _ hna)) (by decide) (iV_get (i := 0) (by rw [hns]; decide))) ea_nil) fun H2 e2 => ⟨d, L, m, _, rfl, c.ex (f1.trans e2), g.bounds, dq1.ex (f1.trans e2)⟩
    replace f0 := f0.trans e1
    have n6 := of_decide_eq_false hb
    clear hb
    refine q_when (et_test (ev_eqI (ev_var rfl) ev_c)) (fun hb H1 e1 => ?_) (fun hb H1 e1 => ?_)
    · have f1 := f0.trans e1
      obtain rfl := of_decide_eq_true hb
      have dq1 : DeskQ A E H d L Q (declineM m (ns.getD 0 0)) := dq
      refine q_meth (ev_var rfl) (c.ex f1).ob (no_De_decline _) (ea_cons (ev_ixn (ev_var rfl) ev_c (SqL.of (f1 _ _ hna)) (by decide) (iV_get (i := 0) (by rw [hns]; decide))) ea_nil) fun H2 e2 => ⟨d, L, m, _, rfl, c.ex (f1.trans e2), g.bounds, dq1.ex (f1.trans e2)⟩
    replace f0 := f0.trans e1
    have n7 := of_decide_eq_false hb
    clear hb
    refine q_when (et_test (ev_eqI (ev_var rfl) ev_c)) (fun hb H1 e1 => ?_) (fun hb H1 e1 => ?_)
    · have f1 := f0.trans e1
      obtain rfl := of_decide_eq_true hb
      have dq1 : DeskQ A E H d L Q (dropM m (ns.getD 0 0) (ns.getD 1 0)) := dq
      refine q_meth (ev_var rfl) (c.ex f1).ob (no_De_drop _) (ea_cons (ev_ixn (ev_var rfl) ev_c (SqL.of (f1 _ _ hna)) (by decide) (iV_get (i := 0) (by rw [hns]; decide))) (ea_cons (ev_ixn (ev_var rfl) ev_c (SqL.of (f1 _ _ hna)) (by decide) (iV_get (i := 1) (by rw [hns]; decide))) ea_nil)) fun H2 e2 => ⟨d, L, m, _, _, rfl, c.ex (f1.trans e2), g.bounds, dq1.ex (f1.trans e2)⟩
    replace f0 := f0.trans e1
    have n8 := of_decide_eq_false hb
    clear hb
    have c9 : cc = 9 := by omega
    subst c9
    have dq1 : DeskQ A E H d L Q (transferM m (ns.getD 0 0) (ns.getD 1 0)) := dq
    have f1 := f0
    refine q_meth (ev_var rfl) (c.ex f1).ob (no_De_transfer _) (ea_cons (ev_ixn (ev_var rfl) ev_c (SqL.of (f1 _ _ hna)) (by decide) (iV_get (i := 0) (by rw [hns]; decide))) (ea_cons (ev_ixn (ev_var rfl) ev_c (SqL.of (f1 _ _ hna)) (by decide) (iV_get (i := 1) (by rw [hns]; decide))) ea_nil)) fun H2 e2 => ⟨d, L, m, _, _, rfl, c.ex (f1.trans e2), g.bounds, dq1.ex (f1.trans e2)⟩
def sp_f_call_told (K : PySem.W.Frag) (A : Ads) : Sp := fun vs H Q E => ∃ (d : Addr) (L : Lay) (m : M) (cc : Int) (na : Addr) (ns : List Int) (ra : Addr) (row : List Int), vs = [.ref d, .int cc, .ref na, .ref ra] ∧ DAt A H d L m ∧ Good m ∧ H na = some (.lst (iV ns)) ∧ H ra = some (.lst (iV row)) ∧ (0 ≤ cc ∧ cc ≤ 19) ∧ ns.length = arity cc ∧ DeskQ A E H d L Q (callM m cc ns row)
theorem ok_f_call_told (X : Tx K mg A) : Okd P w K mg base (L2.CX P w) 7 A.f_call_told ["desk", "call", "numbers", "row"] (sp_f_call_told K A) := by
  obtain ⟨fd_De_counts, G_De_counts, b_De_counts⟩ := ok_De_counts (P := P) (w := w) (base := base) X
  obtain ⟨fd_De_money, G_De_money, b_De_money⟩ := ok_De_money (P := P) (w := w) (base := base) X
  obtain ⟨fd_St_queue, G_St_queue, b_St_queue⟩ := ok_St_queue (P := P) (w := w) (base := base) X
  obtain ⟨fd_De_offers_told, G_De_offers_told, b_De_offers_told⟩ := ok_De_offers_told (P := P) (w := w) (base := base) X
  obtain ⟨fd_Sc_account, G_Sc_account, b_Sc_account⟩ := ok_Sc_account (P := P) (w := w) (base := base) X
  obtain ⟨fd_Sc_money, G_Sc_money, b_Sc_money⟩ := ok_Sc_money (P := P) (w := w) (base := base) X
  obtain ⟨fd_De_look_up, G_De_look_up, b_De_look_up⟩ := ok_De_look_up (P := P) (w := w) (base := base) X
  obtain ⟨fd_De_school_told, G_De_school_told, b_De_school_told⟩ := ok_De_school_told (P := P) (w := w) (base := base) X
  obtain ⟨fd_De_close, G_De_close, b_De_close⟩ := ok_De_close (P := P) (w := w) (base := base) X
  obtain ⟨fd_De_night, G_De_night, b_De_night⟩ := ok_De_night (P := P) (w := w) (base := base) X
  obtain ⟨fd_De_payout, G_De_payout, b_De_payout⟩ := ok_De_payout (P := P) (w := w) (base := base) X
  obtain ⟨fd_De_pay, G_De_pay, b_De_pay⟩ := ok_De_pay (P := P) (w := w) (base := base) X
  obtain ⟨fd_f_first_told, G_f_first_told, b_f_first_told⟩ := ok_f_first_told (P := P) (w := w) (base := base) X
  obtain ⟨fd, F⟩ := X.fn_f_call_told
  refine ⟨fd, F.okX sc_f_call_told (fun vs H Q E h => ?_) (fun cdv A' outer s H vs Q E hr h => ⟨_, (pss_cons (ps_if (pt_cmpR op_le (pv 1) (pe_gi rfl X.c_TRANSFER) (nomark _))
      (pss_one (ps_ret (pe_call G_f_first_told (hr.mono (by decide)) rfl X.g_f_first_told X.k_f_first_told b_f_first_told .nil passE (pa_cons (pv 0) (pa_cons (pv 1) (pa_cons (pv 2) (pa_cons (pv 3) pa_nil)))))))
      pss_nil)
    (pss_cons (ps_if (pt_cmpR op_eq (pv 1) (pe_gi rfl X.c_PAY) (nomark _))
      (pss_one (ps_ret (pe_meth (pv 0) X.cl_De X.m_De_pay G_De_pay (hr.mono (by decide)) b_De_pay .nil passE (pa_cons (pe_ix ix_list (pv 2) pe_int (fun _ _ => rfl)) (pa_cons (pe_ix ix_list (pv 2) pe_int (fun _ _ => rfl)) pa_nil)))))
      pss_nil)
    (pss_cons (ps_if (pt_cmpR op_eq (pv 1) (pe_gi rfl X.c_PAYOUT) (nomark _))
      (pss_one (ps_ret (pe_meth (pv 0) X.cl_De X.m_De_payout G_De_payout (hr.mono (by decide)) b_De_payout .nil passE (pa_cons (pe_ix ix_list (pv 2) pe_int (fun _ _ => rfl)) pa_nil))))
      pss_nil)
    (pss_cons (ps_if (pt_cmpR op_eq (pv 1) (pe_gi rfl X.c_NIGHT) (nomark _))
      (pss_one (ps_ret (pe_meth (pv 0) X.cl_De X.m_De_night G_De_night (hr.mono (by decide)) b_De_night .nil passE (pa_cons (pe_ix ix_list (pv 2) pe_int (fun _ _ => rfl)) pa_nil))))
      pss_nil)
    (pss_cons (ps_if (pt_cmpR op_eq (pv 1) (pe_gi rfl X.c_CLOSE) (nomark _))
      (pss_one (ps_ret (pe_meth0 (pv 0) X.cl_De X.m_De_close G_De_close (hr.mono (by decide)) b_De_close .nil passE)))
      pss_nil)
    (pss_cons (ps_if (pt_cmpR op_eq (pv 1) (pe_gi rfl X.c_SCHOOL) (nomark _))
      (pss_one (ps_ret (pe_meth (pv 0) X.cl_De X.m_De_school_told G_De_school_told (hr.mono (by decide)) b_De_school_told .nil passE (pa_cons (pe_ix ix_list (pv 2) pe_int (fun _ _ => rfl)) pa_nil))))
      pss_nil)
    (pss_cons (ps_if (pt_cmpR op_eq (pv 1) (pe_gi rfl X.c_ACCOUNT) (nomark _))
      (pss_cons (ps_set (i := 4) sc_f_call_told.nd rfl (Or.inl rfl) (pe_meth (pv 0) X.cl_De X.m_De_look_up G_De_look_up (hr.mono (by decide)) b_De_look_up .nil passE (pa_cons (pe_ix ix_list (pv 2) pe_int (fun _ _ => rfl)) pa_nil)))
      (pss_one (ps_ret (pe_op op_cat (pe_lst (pa_cons (pe_meth0 (pv 4) X.cl_Sc X.m_Sc_account G_Sc_account (hr.mono (by decide)) b_Sc_account .nil pass0) pa_nil)) (pe_meth0 (pv 4) X.cl_Sc X.m_Sc_money G_Sc_money (hr.mono (by decide)) b_Sc_money .nil pass0)))))
      pss_nil)
    (pss_cons (ps_if (pt_cmpR op_eq (pv 1) (pe_gi rfl X.c_OFFERS) (nomark _))
      (pss_one (ps_ret (pe_meth0 (pv 0) X.cl_De X.m_De_offers_told G_De_offers_told (hr.mono (by decide)) b_De_offers_told .nil pass0)))
      pss_nil)
    (pss_cons (ps_if (pt_cmpR op_eq (pv 1) (pe_gi rfl X.c_QUEUE) (nomark _))
      (pss_cons (ps_set (i := 5) sc_f_call_told.nd rfl (Or.inl rfl) (pe_meth0 (pe_fld (pv 0) rfl) X.cl_St X.m_St_queue G_St_queue (hr.mono (by decide)) b_St_queue .nil pass0))
      (pss_one (ps_ret (pe_op op_cat (pe_lst (pa_cons (pe_callB call_len_seq (by rfl) X.b_len PySem.boot_len (pa_cons (pv 5) pa_nil)) pa_nil)) (pv 5)))))
      pss_nil)
    (pss_cons (ps_if (pt_cmpR op_eq (pv 1) (pe_gi rfl X.c_MONEY) (nomark _))
      (pss_one (ps_ret (pe_meth0 (pv 0) X.cl_De X.m_De_money G_De_money (hr.mono (by decide)) b_De_money .nil pass0)))
      pss_nil)
    (pss_one (ps_ret (pe_meth0 (pv 0) X.cl_De X.m_De_counts G_De_counts (hr.mono (by decide)) b_De_counts .nil pass0))))))))))))), ?_⟩), F.binds fun _ _ _ _ _ _ us hl => match us, hl with | [_, _, _, _], _ => rfl⟩
  · obtain ⟨_, _, _, _, _, _, _, _, rfl, _⟩ := h
    rfl
  · obtain ⟨d, L, m, cc, na, ns, ra, row, rfl, c, g, hna, hra, hc, hns, dq⟩ := h
    have f0 : Ex H H := Ex.refl H
    refine q_when (et_test (ev_i0 (ev_var rfl) ev_c)) (fun hb H1 e1 => ?_) (fun hb H1 e1 => ?_)
    · have h9 := of_decide_eq_true hb
      have f1 := f0.trans e1
      have dq1 : DeskQ A E H d L Q (firstM m cc ns row) := by
        unfold callM at dq
        rw [if_pos h9] at dq
        exact dq
      refine q_call (ea_cons (ev_var rfl) (ea_cons (ev_var rfl) (ea_cons (ev_var rfl) (ea_cons (ev_var rfl) ea_nil)))) fun H2 e2 => ⟨d, L, m, cc, na, ns, ra, row, rfl, c.ex (f1.trans e2), g, (f1.trans e2) _ _ hna, (f1.trans e2) _ _ hra, ⟨hc.1, h9⟩, hns, dq1.ex (f1.trans e2)⟩
    replace f0 := f0.trans e1
    have n9 := of_decide_eq_false hb
    clear hb
    refine q_when (et_test (ev_eqI (ev_var rfl) ev_c)) (fun hb H1 e1 => ?_) (fun hb H1 e1 => ?_)
    · have f1 := f0.trans e1
      obtain rfl := of_decide_eq_true hb
      have dq1 : DeskQ A E H d L Q (payM m (ns.getD 0 0) (ns.getD 1 0)) := dq
      refine q_meth (ev_var rfl) (c.ex f1).ob (no_De_pay _) (ea_cons (ev_ixn (ev_var rfl) ev_c (SqL.of (f1 _ _ hna)) (by decide) (iV_get (i := 0) (by rw [hns]; decide))) (ea_cons (ev_ixn (ev_var rfl) ev_c (SqL.of (f1 _ _ hna)) (by decide) (iV_get (i := 1) (by rw [hns]; decide))) ea_nil)) fun H2 e2 => ⟨d, L, m, _, _, rfl, c.ex (f1.trans e2), g.bounds, dq1.ex (f1.trans e2)⟩
    replace f0 := f0.trans e1
    have n10 := of_decide_eq_false hb
    clear hb
    refine q_when (et_test (ev_eqI (ev_var rfl) ev_c)) (fun hb H1 e1 => ?_) (fun hb H1 e1 => ?_)
    · have f1 := f0.trans e1
      obtain rfl := of_decide_eq_true hb
      have dq1 : DeskQ A E H d L Q (payoutM m (ns.getD 0 0)) := dq
      refine q_meth (ev_var rfl) (c.ex f1).ob (no_De_payout _) (ea_cons (ev_ixn (ev_var rfl) ev_c (SqL.of (f1 _ _ hna)) (by decide) (iV_get (i := 0) (by rw [hns]; decide))) ea_nil) fun H2 e2 => ⟨d, L, m, _, rfl, c.ex (f1.trans e2), g.bounds, dq1.ex (f1.trans e2)⟩
    replace f0 := f0.trans e1
    have n11 := of_decide_eq_false hb
    clear hb
    refine q_when (et_test (ev_eqI (ev_var rfl) ev_c)) (fun hb H1 e1 => ?_) (fun hb H1 e1 => ?_)
    · have f1 := f0.trans e1
      obtain rfl := of_decide_eq_true hb
      have dq1 : DeskQ A E H d L Q (nightM m (ns.getD 0 0)) := dq
      refine q_meth (ev_var rfl) (c.ex f1).ob (no_De_night _) (ea_cons (ev_ixn (ev_var rfl) ev_c (SqL.of (f1 _ _ hna)) (by decide) (iV_get (i := 0) (by rw [hns]; decide))) ea_nil) fun H2 e2 => ⟨d, L, m, _, rfl, c.ex (f1.trans e2), g, dq1.ex (f1.trans e2)⟩
    replace f0 := f0.trans e1
    have n12 := of_decide_eq_false hb
    clear hb
    refine q_when (et_test (ev_eqI (ev_var rfl) ev_c)) (fun hb H1 e1 => ?_) (fun hb H1 e1 => ?_)
    · have f1 := f0.trans e1
      obtain rfl := of_decide_eq_true hb
      have dq1 : DeskQ A E H d L Q (closeM m) := dq
      refine q_meth (ev_var rfl) (c.ex f1).ob (no_De_close _) ea_nil fun H2 e2 => ⟨d, L, m, rfl, c.ex (f1.trans e2), g.bounds, dq1.ex (f1.trans e2)⟩
    replace f0 := f0.trans e1
    have n13 := of_decide_eq_false hb
    clear hb
    refine q_when (et_test (ev_eqI (ev_var rfl) ev_c)) (fun hb H1 e1 => ?_) (fun hb H1 e1 => ?_)
    · have f1 := f0.trans e1
      obtain rfl := of_decide_eq_true hb
      have dq1 : DeskQ A E H d L Q (schoolM m (ns.getD 0 0)) := dq
      refine q_meth (ev_var rfl) (c.ex f1).ob (no_De_school_told _) (ea_cons (ev_ixn (ev_var rfl) ev_c (SqL.of (f1 _ _ hna)) (by decide) (iV_get (i := 0) (by rw [hns]; decide))) ea_nil) fun H2 e2 => ⟨d, L, m, _, rfl, c.ex (f1.trans e2), g.bounds, dq1.ex (f1.trans e2)⟩
    replace f0 := f0.trans e1
    have n14 := of_decide_eq_false hb
    clear hb
    refine q_when (et_test (ev_eqI (ev_var rfl) ev_c)) (fun hb H1 e1 => ?_) (fun hb H1 e1 => ?_)
    · have f1 := f0.trans e1
      obtain rfl := of_decide_eq_true hb
      have dq1 : DeskQ A E H d L Q (accountM m (ns.getD 0 0)) := dq
      refine q_look (c.ex f1) (dq1.ex f1) (ev_var rfl) (ev_ixn (ev_var rfl) ev_c (SqL.of (f1 _ _ hna)) (by decide) (iV_get (i := 0) (by rw [hns]; decide))) fun H2 i a e2 hf hl ha hs c2 dq2 => ?_
      exact s_retL (el_cat (x_of_L (el_lst (ea_cons (ev_meth (ev_var rfl) hs (no_Sc_account _) ea_nil fun H3 e3 Q' q E' => ⟨a, _, rfl, hs.ex e3, q⟩) ea_nil) (by show 1 ≤ 100000; decide))) (x_of_L (el_meth (ev_var rfl) hs (no_Sc_money _) ea_nil fun H3 e3 Q' q E' => ⟨a, _, rfl, hs.ex e3, q⟩)) (by show 1 + 5 ≤ 10000000; decide)) (dq2.fin (Fr.refl _ _) c2)
    replace f0 := f0.trans e1
    have n15 := of_decide_eq_false hb
    clear hb
    refine q_when (et_test (ev_eqI (ev_var rfl) ev_c)) (fun hb H1 e1 => ?_) (fun hb H1 e1 => ?_)
    · have f1 := f0.trans e1
      obtain rfl := of_decide_eq_true hb
      have dq1 : DeskQ A E H d L Q (.ok (m, offersM m)) := dq
      refine q_meth (ev_var rfl) (c.ex f1).ob (no_De_offers_told _) ea_nil fun H2 e2 => ⟨d, L, m, rfl, c.ex (f1.trans e2), g.bounds, (dq1.ex (f1.trans e2)).fin (Fr.refl _ _) (c.ex (f1.trans e2))⟩
    replace f0 := f0.trans e1
    have n16 := of_decide_eq_false hb
    clear hb
    refine q_when (et_test (ev_eqI (ev_var rfl) ev_c)) (fun hb H1 e1 => ?_) (fun hb H1 e1 => ?_)
    · have f1 := f0.trans e1
      obtain rfl := of_decide_eq_true hb
      have dq1 : DeskQ A E H d L Q (.ok (m, ((queueOf m).length : Int) :: queueOf m)) := dq
      have c1 := c.ex f1
      refine q_asgL (el_meth (ev_De_state X c1.ob (ev_var rfl)) c1.st.st (no_St_queue _ _) ea_nil fun H2 e2 Q' q E' => ⟨L, m, rfl, c1.st.ex e2, g, q⟩) fun p H2 hp e2 l2 => ?_
      have sl : (queueOf m).length ≤ 300 := queue_len _ _ _ _
      have f2 := f1.trans e2
      exact s_retL (el_cat (x_of_L (el_lst (ea_cons (ev_is (ev_len (ev_var rfl) (SqL.of l2)) (congrArg (fun n : Nat => V.int (n : Int)) (iV_len _))) ea_nil) (by show 1 ≤ 100000; decide))) (x_of (ev_var rfl) l2) (by rw [iV_len]; show 1 + _ ≤ _; omega)) ((dq1.ex f2).fin (Fr.refl _ _) (c.ex f2))
    replace f0 := f0.trans e1
    have n17 := of_decide_eq_false hb
    clear hb
    refine q_when (et_test (ev_eqI (ev_var rfl) ev_c)) (fun hb H1 e1 => ?_) (fun hb H1 e1 => ?_)
    · have f1 := f0.trans e1
      obtain rfl := of_decide_eq_true hb
      have dq1 : DeskQ A E H d L Q (.ok (m, moneyM m)) := dq
      refine q_meth (ev_var rfl) (c.ex f1).ob (no_De_money _) ea_nil fun H2 e2 => ⟨d, L, m, rfl, c.ex (f1.trans e2), g.bounds, (dq1.ex (f1.trans e2)).fin (Fr.refl _ _) (c.ex (f1.trans e2))⟩
    replace f0 := f0.trans e1
    have n18 := of_decide_eq_false hb
    clear hb
    have c19 : cc = 19 := by omega
    subst c19
    have dq1 : DeskQ A E H d L Q (.ok (m, countsM m)) := dq
    refine q_meth (ev_var rfl) (c.ex f0).ob (no_De_counts _) ea_nil fun H2 e2 => ⟨d, L, m, rfl, c.ex (f0.trans e2), g.bounds, (dq1.ex (f0.trans e2)).fin (Fr.refl _ _) (c.ex (f0.trans e2))⟩
def sp_f_answer_of (K : PySem.W.Frag) (A : Ads) : Sp := fun vs H Q E => ∃ (d : Addr) (L : Lay) (m : M) (cc : Int) (na : Addr) (ns : List Int) (ra : Addr) (row : List Int), vs = [.ref d, .int cc, .ref na, .ref ra] ∧ DAt A H d L m ∧ Good m ∧ H na = some (.lst (iV ns)) ∧ H ra = some (.lst (iV row)) ∧ (0 ≤ cc ∧ cc ≤ 19) ∧ ns.length = arity cc ∧
  ∀ H' L' p, DAt A H' d L' (answerM m cc ns row).1 → Fr H H' (dfoot d L) (dfoot d L') → NewP H (dfoot d L) p → H' p = some (.lst (iV (answerM m cc ns row).2)) → Q (.ref p) H'
theorem q_callS {σ : L2.St} {H : Hp} {sp : Sp} {E : L2.St → XK} {t : TA} {vs : List V} {Q : VK} (hv : EvA t σ H vs) (hs : ∀ H1, Ex H H1 → sp vs H1 Q (E σ)) : tCallS sp E t σ H Q := hv H (Ex.refl H) _ hs
theorem ok_f_answer_of (X : Tx K mg A) : Okd P w K mg base CX0 8 A.f_answer_of ["desk", "call", "numbers", "row"] (sp_f_answer_of K A) := by
  obtain ⟨fd_f_call_told, G_f_call_told, b_f_call_told⟩ := ok_f_call_told (P := P) (w := w) (base := base) X
  obtain ⟨fd, F⟩ := X.fn_f_answer_of
  refine ⟨fd, F.ok sc_f_answer_of (fun vs H Q E h => ?_) (fun cdv A' outer s H vs Q E hr h => ⟨_, (pss_one (ps_try_as (i := 4) (Wout := fun _ _ _ _ => False) rfl rfl sc_f_answer_of.nd rfl rfl ⟨rfl, by decide, .inl X.g_Re⟩ takes0
      (fun W pn xe tk _ => (pss_one (ps_ret (pe_callS G_f_call_told (hr.mono (by decide)) rfl X.g_f_call_told X.k_f_call_told b_f_call_told (fun σ => passAt tk σ) (by exact (pa_cons (pv 0) (pa_cons (pv 1) (pa_cons (pv 2) (pa_cons (pv 3) pa_nil)))))))))
      (fun a oe cls d pn hz hf => (pss_one (ps_ret (pe_lst (pa_cons (pe_xf X.xf_Re X.na_Re_why hz hf (pv 4)) pa_nil))))))), ?_⟩), F.binds fun _ _ _ _ _ _ us hl => match us, hl with | [_, _, _, _], _ => rfl⟩
  · obtain ⟨_, _, _, _, _, _, _, _, rfl, _⟩ := h
    rfl
  · obtain ⟨d, L, m, cc, na, ns, ra, row, rfl, c, g, hna, hra, hc, hns, k⟩ := h
    refine q_callS (ea_cons (ev_var rfl) (ea_cons (ev_var rfl) (ea_cons (ev_var rfl) (ea_cons (ev_var rfl) ea_nil)))) fun H1 e1 => ⟨d, L, m, cc, na, ns, ra, row, rfl, c.ex e1, g, e1 _ _ hna, e1 _ _ hra, hc, hns, ?_⟩
    unfold answerM at k
    cases hcm : callM m cc ns row with
    | error e =>
      rw [hcm] at k
      intro H2 dd e2 h2
      have f2 := e1.trans e2
      refine ⟨true, X.te_Re, fun _ ea hea => ?_, fun z => by cases z⟩
      exact s_retL (el_lst (ea_cons (ev_xf (ev_var rfl) h2 (by rfl)) ea_nil) (by show 1 ≤ 100000; decide)) fun p H3 hp e3 l3 => k H3 L p ((c.ex f2).ex e3) (((Fr.refl H _).ex f2).ex e3) (fun b o hb _ z => by
        have := f2 b o hb
        rw [z, hp] at this
        cases this) l3
    | ok x =>
      rw [hcm] at k
      exact fun H' L' p h1 h2 h3 h4 => k H' L' p h1 (Fr.of_ex e1 h2) (h3.ex e1) h4
/-! ### the reader -/
theorem cut_mid {α : Type} (l : List Int) (i k : Int) (h0 : 0 ≤ i) (h1 : 0 ≤ k) (h2 : i + k ≤ l.length) : cutV (iV l) (some (i + k - k)) (some (i + k)) = iV ((l.drop i.toNat).take k.toNat) := by
  have e : i + k - k = i := by omega
  rw [e]
  unfold cutV
  have q1 : HT.sIx (iV l).length 0 (some i) = i.toNat := by
    have : i = ((i.toNat : Nat) : Int) := by omega
    rw [this, HT.sIx_nat, iV_len]
    omega
  have q2 : HT.sIx (iV l).length (iV l).length (some (i + k)) = (i + k).toNat := by
    have : i + k = (((i + k).toNat : Nat) : Int) := by omega
    rw [this, HT.sIx_nat, iV_len]
    omega
  rw [q1, q2]
  have q3 : (i + k).toNat - i.toNat = k.toNat := by omega
  rw [q3]
  unfold iV
  rw [List.map_take, List.map_drop]
def sp_Cr_is_done (K : PySem.W.Frag) (A : Ads) : Sp := fun vs H Q _ => ∃ (r c : Addr) (i : Int) (l : List Int), vs = [.ref r] ∧ At H r A.Cr (crF c i) ∧ SqL K H c (iV l) ∧ RetV (.bl (decide (i ≥ (l.length : Int)))) H Q
theorem ok_Cr_is_done (X : Tx K mg A) : Okd P w K mg base CX0 1 A.Cr_is_done ["self"] (sp_Cr_is_done K A) := by
  obtain ⟨fd, F⟩ := X.fn_Cr_is_done
  refine ⟨fd, F.ok sc_Cr_is_done (fun vs H Q E h => ?_) (fun cdv A' outer s H vs Q E hr h => ⟨_, (pss_one (ps_ret (pe_cmpR op_ge (pe_fld (pv 0) rfl) (pe_callB call_len_seq (by rfl) X.b_len PySem.boot_len (pa_cons (pe_fld (pv 0) rfl) pa_nil)) (nomark _)))), ?_⟩), F.binds fun _ _ _ _ _ _ us hl => match us, hl with | [_], _ => rfl⟩
  · obtain ⟨_, _, _, _, rfl, _⟩ := h
    rfl
  · obtain ⟨r, c, i, l, rfl, h, hc, k⟩ := h
    exact s_ret (ev_i0 (ev_Cr_at X h (ev_var rfl)) (ev_is (ev_len (ev_Cr_calls X h (ev_var rfl)) hc) (congrArg (fun n : Nat => V.int (n : Int)) (iV_len l)))) k
def sp_Cr_next_some (K : PySem.W.Frag) (A : Ads) : Sp := fun vs H Q _ => ∃ (r c : Addr) (i : Int) (l : List Int) (x : Int), vs = [.ref r, .int x] ∧ At H r A.Cr (crF c i) ∧ (∀ H', Kp r H H' → SqL K H' c (iV l)) ∧ 0 ≤ i ∧ 0 ≤ x ∧ i + x ≤ l.length ∧
  ∀ p H', H p = none → At H' r A.Cr (crF c (i + x)) → Kp r H H' → H' p = some (.lst (iV ((l.drop i.toNat).take x.toNat))) → Q (.ref p) H'
theorem ok_Cr_next_some (X : Tx K mg A) : Okd P w K mg base CX0 1 A.Cr_next_some ["self", "many"] (sp_Cr_next_some K A) := by
  obtain ⟨fd, F⟩ := X.fn_Cr_next_some
  refine ⟨fd, F.ok sc_Cr_next_some (fun vs H Q E h => ?_) (fun cdv A' outer s H vs Q E hr h => ⟨_, (pss_cons (ps_fldaug (pv 0) (pv 1) in_add)
    (pss_one (ps_ret (pe_slice sl_list (pe_fld (pv 0) rfl) (po_some (pe_op op_sub (pe_fld (pv 0) rfl) (pv 1))) (po_some (pe_fld (pv 0) rfl)))))), ?_⟩), F.binds fun _ _ _ _ _ _ us hl => match us, hl with | [_, _], _ => rfl⟩
  · obtain ⟨_, _, _, _, _, rfl, _⟩ := h
    rfl
  · obtain ⟨r, c, i, l, x, rfl, h, hsq, h0, h1, h2, k⟩ := h
    refine q_aug_add (ev_var rfl) (ev_var rfl) h X.cl_Cr X.na_Cr_at (lk_Cr_at _ _) (by show 2 < 1000; decide) fun H1 dx e1 hr1 => ?_
    rw [pt_Cr_at]
    have kp : Kp r H (upd H1 r (.ins A.Cr dx (crF c (i + x)))) := kp_write e1
    have h3 : At (upd H1 r (.ins A.Cr dx (crF c (i + x)))) r A.Cr (crF c (i + x)) := ⟨dx, upd_same⟩
    have ev := el_sl (K := K) (te := tFld K (tVar 0) "calls") (tl := tPart (tOp L2.rSub (tFld K (tVar 0) "at") (tVar 1))) (th := tPart (tFld K (tVar 0) "at")) (σ := start ["self", "many"] [.ref r, .int x]) (ev_Cr_calls X h3 (ev_var rfl)) (eo_some (ev_i0 (ev_Cr_at X h3 (ev_var rfl)) (ev_var rfl))) (eo_some (ev_Cr_at X h3 (ev_var rfl))) (hsq _ kp)
    rw [cut_mid (α := Int) l i x h0 h1 h2] at ev
    refine s_retL ev fun p H2 hp e2 l2 => k p H2 ?_ (h3.ex e2) (kp.trans fun b o _ hb => e2 b o hb) l2
    have npr : p ≠ r := fun z => by rw [z, upd_same] at hp; cases hp
    rw [upd_ne npr] at hp
    exact fresh_back e1 hp
end
end Eh

-- EhW16
set_option Elab.async false
set_option linter.all false
set_option maxRecDepth 100000
set_option maxHeartbeats 4000000
namespace Eh
open PySem PySem.Spec PyProof.Rows L2 EhR EhZ Evl
theorem DAt.keep {A : Ads} {H H' : Hp} {d : Addr} {L : Lay} {m : M} (h : DAt A H d L m) (k : ∀ b o, b ∈ dfoot d L → H b = some o → H' b = some o) : DAt A H' d L m := by
  have kf : ∀ b o, b ∈ foot L → H b = some o → H' b = some o := fun b o hb => k b o (List.mem_cons_of_mem _ hb)
  have kb : ∀ b o, b ∈ bfoot L → H b = some o → H' b = some o := fun b o hb => kf b o (mem_foot.mpr (.inr hb))
  have ka : ∀ b C fs, b ∈ foot L → At H b C fs → At H' b C fs := fun b C fs hb h => let ⟨dx, q⟩ := h; ⟨dx, kf b _ hb q⟩
  refine ⟨?_, ⟨ka _ _ _ (foot_st L) h.st.st, ?_⟩, h.out⟩
  · obtain ⟨dx, q⟩ := h.ob
    exact ⟨dx, k d _ List.mem_cons_self q⟩
  · have b := h.st.bd
    refine ⟨⟨ka _ _ _ (mem_foot.mpr (.inr (mem_bfoot.mpr (.inl rfl)))) b.ru.ob, b.ru.len, fun j a ns e1 e2 => kb a _ (mem_bfoot.mpr (.inr (.inr (.inr (.inl (List.mem_of_getElem? e1)))))) (b.ru.rows j a ns e1 e2)⟩, kf _ _ (foot_sl L) b.sl, ⟨b.ss.len, fun j a x e1 e2 => ka _ _ _ (foot_ss (List.mem_of_getElem? e1)) (b.ss.ob j a x e1 e2)⟩, kf _ _ (foot_ol L) b.ol, ⟨b.os.len, fun j a x e1 e2 => ka _ _ _ (foot_of (List.mem_of_getElem? e1)) (b.os.ob j a x e1 e2)⟩, b.nd, b.d1, b.d2, b.d3⟩
theorem kp_ex {H H1 : Hp} {r : Addr} (e : Ex H H1) : Kp r H H1 := fun b o _ hb => e b o hb
theorem nums_at {p : Int} (h0 : 0 ≤ p) (h1 : p ≤ 19) : vals_NUMBERS[p.toNat]? = some (V.int (arity p : Nat)) := by
  have e : vals_NUMBERS = NUMS.map fun (n : Nat) => V.int (n : Int) := rfl
  have hl : p.toNat < NUMS.length := by show p.toNat < 20; omega
  rw [e, List.getElem?_map, List.getElem?_eq_getElem hl]
  unfold arity
  rw [List.getD_eq_getElem?_getD, List.getElem?_eq_getElem hl]
  rfl
theorem rows_at {p : Int} (h0 : 0 ≤ p) (h1 : p ≤ 19) : vals_ROWS[p.toNat]? = some (V.int (if p = 1 then 1 else 0)) := by
  have e : vals_ROWS = (List.range 20).map fun n => V.int (if n = 1 then 1 else 0) := by rfl
  rw [e, List.getElem?_map, List.getElem?_range (by omega)]
  show some (V.int _) = _
  by_cases c : p = 1
  · rw [if_pos c, if_pos (by omega)]
  · rw [if_neg c, if_neg (by omega)]
section
variable {K : PySem.W.Frag} {mg : Str → Option Value} {A : Ads} {σ : L2.St} {H : Hp} {ta tb te tv t0 t1 t2 : TE} {D : Ends} {tz tu : TS} {E E2 : XK} {r c : Addr} {i : Nat} {l xs ys : List Int}
theorem drop_next (hd : l.drop i = xs ++ ys) : l.drop (i + xs.length) = ys := by
  rw [← List.drop_drop, hd, List.drop_left]
theorem m_next {Q : VK} (h0 : Ev t0 σ H (.ref r)) (h1 : Ev t1 σ H (.int (xs.length : Int))) (h : At H r A.Cr (crF c (i : Int))) (hsq : ∀ H', Kp r H H' → SqL K H' c (iV l)) (hd : l.drop i = xs ++ ys) (hi : i ≤ l.length)
    (k : ∀ p H', H p = none → At H' r A.Cr (crF c ((i + xs.length : Nat) : Int)) → Kp r H H' → H' p = some (.lst (iV xs)) → Q (.ref p) H') : tMeth A.Cr "next_some" (sp_Cr_next_some K A) [] E t0 (tCons t1 tNil) σ H Q := by
  have hlen := congrArg List.length hd
  rw [List.length_drop, List.length_append] at hlen
  refine q_meth h0 h (no_Cr_next_some _ _) (ea_cons h1 ea_nil) fun H1 e1 => ⟨r, c, (i : Int), l, (xs.length : Int), rfl, h.ex e1, fun H' kp => hsq H' ((kp_ex e1).trans kp), by omega, by omega, by omega, fun p H' hp h' kp l' => ?_⟩
  have ei : (i : Int) + (xs.length : Int) = ((i + xs.length : Nat) : Int) := by omega
  rw [ei] at h'
  rw [Int.toNat_natCast, Int.toNat_natCast, hd, List.take_left] at l'
  exact k p H' (fresh_back e1 hp) h' ((kp_ex e1).trans kp) l'
theorem q_next1 {v : Int} {j : Nat} (h0 : Ev t0 σ H (.ref r)) (h : At H r A.Cr (crF c (i : Int))) (hsq : ∀ H', Kp r H H' → SqL K H' c (iV l)) (hd : l.drop i = v :: ys) (hi : i ≤ l.length)
    (k : ∀ H', At H' r A.Cr (crF c ((i + 1 : Nat) : Int)) → Kp r H H' → tz D (σ.set j (some (.int v))) H') : tSeq (tAsg (tOp (rIxL K) (tMeth A.Cr "next_some" (sp_Cr_next_some K A) [] E t0 (tCons (tC (.int 1)) tNil)) (tC (.int 0))) (gName j)) tz D σ H :=
  m_next (K := K) (Q := fun x H1 => tC (.int 0) σ H1 fun y H2 => rIxL K x y H2 fun v H3 => tz D (σ.set j (some v)) H3) (xs := [v]) (ys := ys) h0 ev_c h hsq hd hi fun p H' hp h' kp l' => ⟨p, [V.int v], 0, V.int v, rfl, rfl, SqL.of l', atI_nat (j := 0) rfl, k H' h' kp⟩
theorem q_nextL {j : Nat} (h0 : Ev t0 σ H (.ref r)) (h1 : Ev t1 σ H (.int (xs.length : Int))) (h : At H r A.Cr (crF c (i : Int))) (hsq : ∀ H', Kp r H H' → SqL K H' c (iV l)) (hd : l.drop i = xs ++ ys) (hi : i ≤ l.length)
    (k : ∀ p H', H p = none → At H' r A.Cr (crF c ((i + xs.length : Nat) : Int)) → Kp r H H' → H' p = some (.lst (iV xs)) → tz D (σ.set j (some (.ref p))) H') : tSeq (tAsg (tMeth A.Cr "next_some" (sp_Cr_next_some K A) [] E t0 (tCons t1 tNil)) (gName j)) tz D σ H :=
  m_next (K := K) (Q := fun x H1 => tz D (σ.set j (some x)) H1) h0 h1 h hsq hd hi k
/-- row = reader.next_some(reader.next_some(1)[0]) -/
theorem s_next2 {j s : Nat} (h0 : σ[s]? = some (some (.ref r))) (h : At H r A.Cr (crF c (i : Int))) (hsq : ∀ H', Kp r H H' → SqL K H' c (iV l)) (hd : l.drop i = (xs.length : Int) :: (xs ++ ys)) (hi : i ≤ l.length)
    (k : ∀ p H', H p = none → At H' r A.Cr (crF c ((i + 1 + xs.length : Nat) : Int)) → Kp r H H' → H' p = some (.lst (iV xs)) → D.nx (σ.set j (some (.ref p))) H') :
    tAsg (tMeth A.Cr "next_some" (sp_Cr_next_some K A) [] E (tVar s) (tCons (tOp (rIxL K) (tMeth A.Cr "next_some" (sp_Cr_next_some K A) [] E2 (tVar s) (tCons (tC (.int 1)) tNil)) (tC (.int 0))) tNil)) (gName j) D σ H := by
  obtain ⟨dx, hr⟩ := h
  have hlen := congrArg List.length hd
  rw [List.length_drop, List.length_cons] at hlen
  have hd2 := drop_next (l := l) (i := i) (xs := [(xs.length : Int)]) (ys := xs ++ ys) hd
  refine ⟨.ref r, h0, r, dx, _, rfl, hr, no_Cr_next_some _ _, ?_⟩
  refine m_next (K := K) (Q := fun x H1 => tC (.int 0) σ H1 fun y H2 => rIxL K x y H2 fun v H3 => sp_Cr_next_some K A (.ref r :: ([v] ++ [])) H3 (fun v H4 => D.nx (σ.set j (some v)) H4) E) (xs := [(xs.length : Int)]) (ys := xs ++ ys) (ev_var h0) ev_c ⟨dx, hr⟩ hsq hd hi fun p H' hp h' kp l' => ⟨p, [V.int (xs.length : Int)], 0, V.int (xs.length : Int), rfl, rfl, SqL.of l', atI_nat (j := 0) rfl, ?_⟩
  have hlen2 := congrArg List.length hd2
  rw [List.length_drop, List.length_append] at hlen2
  have l1 : [(xs.length : Int)].length = 1 := rfl
  rw [l1] at h' hd2 hlen2
  refine ⟨r, c, ((i + 1 : Nat) : Int), l, (xs.length : Int), rfl, h', fun H2 kp2 => hsq H2 (kp.trans kp2), by omega, by omega, by omega, fun p2 H2 hp2 h2 kp2 l2 => ?_⟩
  have ei : ((i + 1 : Nat) : Int) + (xs.length : Int) = ((i + 1 + xs.length : Nat) : Int) := by omega
  rw [ei] at h2
  rw [Int.toNat_natCast, Int.toNat_natCast, hd2, List.take_left] at l2
  have np : p2 ≠ r := fun z => by
    obtain ⟨d2, q2⟩ := h'
    rw [z, q2] at hp2; cases hp2
  exact k p2 H2 (kp.fresh np hp2) h2 (kp.trans kp2) l2
/-- xs.append(e), a long list -/
theorem q_appB {q : Addr} {vs : List V} {v : V} (hl : H q = some (.lst vs)) (ha : Ev ta σ H (.ref q)) (h : Ev te σ H v) (hz : vs.length < 16777216) (k : ∀ H1, Ex H H1 → tz D σ (upd H1 q (.lst (vs ++ [v])))) : tSeq (tDrop (tBM K "list" rAppend ta (tCons te tNil))) tz D σ H :=
  ha H (Ex.refl H) _ fun H1 e1 => ⟨Or.inl ⟨rfl, vs, sq_of (e1 q _ hl)⟩, h H1 e1 _ fun H2 e2 => ⟨q, vs, v, rfl, rfl, (e1.trans e2) q _ hl, by rw [sizeLine_eq]; exact hz, k H2 (e1.trans e2)⟩⟩
theorem s_extX {q : Addr} {vs us : List V} (hl : H q = some (.lst vs)) (ha : Ev ta σ H (.ref q)) (h : EvX te σ H us) (hz : vs.length + us.length ≤ 16777216) (k : ∀ H1, Ex H H1 → D.nx σ (upd H1 q (.lst (vs ++ us)))) : tDrop (tBM K "list" rExtend ta (tCons te tNil)) D σ H :=
  ha H (Ex.refl H) _ fun H1 e1 => ⟨Or.inl ⟨rfl, vs, sq_of (e1 q _ hl)⟩, h H1 e1 _ fun p H2 e2 h2 => ⟨q, p, vs, us, rfl, rfl, (e1.trans e2) q _ hl, h2, by rw [sizeLine_eq]; exact hz, k H2 (e1.trans e2)⟩⟩
theorem q_mkDe {j : Nat} (k : ∀ p H1 L, H p = none → Ex H H1 → DAt A H1 p L M.fresh → (∀ b ∈ foot L, H b = none) → tz D (σ.set j (some (.ref p))) H1) : tSeq (tAsg (tMake A.De (sp_De_init K A) [] E tNil) (gName j)) tz D σ H :=
  fun p dx h1 h2 h3 => ⟨p, dx, rfl, upd_same, fun H1 L hd kp hf => ⟨rfl, k p H1 L h1 (fun b o hb => by
    have nb : b ≠ p := ne_of_none hb h1
    have nd : b ≠ dx := ne_of_none hb h2
    refine kp b o nb ?_
    rw [upd_ne nb, upd_ne nd]
    exact hb) hd fun b hb => by
    have q := hf b hb
    by_cases c : b = p
    · rw [c, upd_same] at q; cases q
    · rw [upd_ne c] at q
      by_cases d : b = dx
      · rw [d]; exact h2
      · rw [upd_ne d] at q; exact q⟩⟩
theorem q_mkCr {j : Nat} (hc : Ev t0 σ H (.ref c)) (k : ∀ p H1, H p = none → Ex H H1 → At H1 p A.Cr (crF c 0) → tz D (σ.set j (some (.ref p))) H1) : tSeq (tAsg (tMake A.Cr (sp_Cr_init K A) [] E (tCons t0 tNil)) (gName j)) tz D σ H :=
  em_make (C := A.Cr) (fs := crF c 0) (sp := sp_Cr_init K A) (E := E) (ea_cons hc ea_nil) (fun p dx H1 Q hp q => ⟨p, dx, c, rfl, hp, q⟩) H (Ex.refl H) (fun v H1 => tz D (σ.set j (some v)) H1) k
end
structure Turn1 (A : Ads) (K : PySem.W.Frag) (H0 H : Hp) (l : List Int) (a d r fq : Addr) (L : Lay) (m : M) (i : Nat) (rest done out : List Int) : Prop where
  e : Ex H0 H
  c : DAt A H d L m
  rd : At H r A.Cr (crF a (i : Int))
  dr : l.drop i = rest
  hi : i ≤ l.length
  lf : H fq = some (.lst (iV done))
  run : Run rest m out
  ans : PyVbdbam.answers l = done ++ out
  n1 : r ∉ dfoot d L
  n2 : fq ∉ dfoot d L
  n3 : r ≠ fq
  f : ∀ b ∈ dfoot d L, H0 b = none
  fr : H0 r = none
  ff : H0 fq = none
def sp_answers (K : PySem.W.Frag) : Sp := fun vs H Q _ => ∃ (a : Addr) (l : List Int), vs = [.ref a] ∧ SqL K H a (iV l) ∧ PyVbdbam.answers_asked l = true ∧ RetL (iV (PyVbdbam.answers l)) H Q
section
variable {P : Program} {w : World} {K : PySem.W.Frag} {mg : Str → Option Value} {base : Heap} {A : Ads}
def sp_f_answers (K : PySem.W.Frag) (A : Ads) : Sp := sp_answers K
theorem ok_f_answers {fd : FuncData} (X : Tx K mg A) (F : Fun K "answers" "answers" s_f_answers A.f_answers fd) : FnOk P w K mg base CX0 9 A.f_answers fd ["calls"] (sp_f_answers K A) ∧ Binds K fd ["calls"] [] := by
  obtain ⟨fd_Cr_is_done, G_Cr_is_done, b_Cr_is_done⟩ := ok_Cr_is_done (P := P) (w := w) (base := base) X
  obtain ⟨fd_f_answer_of, G_f_answer_of, b_f_answer_of⟩ := ok_f_answer_of (P := P) (w := w) (base := base) X
  obtain ⟨fd_Cr_next_some, G_Cr_next_some, b_Cr_next_some⟩ := ok_Cr_next_some (P := P) (w := w) (base := base) X
  obtain ⟨fd_Cr_init, G_Cr_init, b_Cr_init⟩ := ok_Cr_init (P := P) (w := w) (base := base) X
  obtain ⟨fd_De_init, G_De_init, b_De_init⟩ := ok_De_init (P := P) (w := w) (base := base) X
  refine ⟨F.ok sc_f_answers (fun vs H Q E h => ?_) (fun cdv A' outer s H vs Q E hr h => ⟨_, (pss_cons (ps_set (i := 1) sc_f_answers.nd rfl (Or.inl rfl) (pe_make0 X.mk_De G_De_init (hr.mono (by decide)) rfl X.g_De b_De_init .nil pass0))
    (pss_cons (ps_set (i := 2) sc_f_answers.nd rfl (Or.inl rfl) (pe_make X.mk_Cr G_Cr_init (hr.mono (by decide)) rfl X.g_Cr b_Cr_init .nil pass0 (pa_cons (pv 0) pa_nil)))
    (pss_cons (ps_set (i := 3) sc_f_answers.nd rfl (Or.inl rfl) (pe_lst pa_nil))
    (pss_cons (ps_while (PassesOwn.never) (pt_not (pt_val (pe_meth0 (pv 2) X.cl_Cr X.m_Cr_is_done G_Cr_is_done (hr.mono (by decide)) b_Cr_is_done .nil pass0)))
      (pss_cons (ps_set (i := 4) sc_f_answers.nd rfl (Or.inl rfl) (pe_ix ix_list (pe_meth (pv 2) X.cl_Cr X.m_Cr_next_some G_Cr_next_some (hr.mono (by decide)) b_Cr_next_some .nil pass0 (pa_cons pe_int pa_nil)) pe_int (fun _ _ => rfl)))
      (pss_cons (ps_set (i := 5) sc_f_answers.nd rfl (Or.inl rfl) (pe_meth (pv 2) X.cl_Cr X.m_Cr_next_some G_Cr_next_some (hr.mono (by decide)) b_Cr_next_some .nil pass0 (pa_cons (pe_ix ix_tup (pe_glob (v := .ref A.NUMBERS) rfl X.c_NUMBERS rfl) (pv 4) (fun _ _ => rfl)) pa_nil)))
      (pss_cons (ps_set (i := 6) sc_f_answers.nd rfl (Or.inl rfl) (pe_lst pa_nil))
      (pss_cons (ps_if (pt_cmpR op_gt (pe_ix ix_tup (pe_glob (v := .ref A.ROWS) rfl X.c_ROWS rfl) (pv 4) (fun _ _ => rfl)) pe_int (nomark _))
        (pss_one (ps_set (i := 6) sc_f_answers.nd rfl (Or.inl rfl) (pe_meth (pv 2) X.cl_Cr X.m_Cr_next_some G_Cr_next_some (hr.mono (by decide)) b_Cr_next_some .nil pass0 (pa_cons (pe_ix ix_list (pe_meth (pv 2) X.cl_Cr X.m_Cr_next_some G_Cr_next_some (hr.mono (by decide)) b_Cr_next_some .nil pass0 (pa_cons pe_int pa_nil)) pe_int (fun _ _ => rfl)) pa_nil))))
        pss_nil)
      (pss_cons (ps_set (i := 7) sc_f_answers.nd rfl (Or.inl rfl) (pe_call G_f_answer_of (hr.mono (by decide)) rfl X.g_f_answer_of X.k_f_answer_of b_f_answer_of .nil pass0 (pa_cons (pv 1) (pa_cons (pv 4) (pa_cons (pv 5) (pa_cons (pv 6) pa_nil))))))
      (pss_cons (ps_expr (pe_bm PySem.F.plainAttrs_list PySem.F.slot_list_append PySem.F.type_list_append mt_append (pv 3) (pa_cons (pe_callB call_len_seq (by rfl) X.b_len PySem.boot_len (pa_cons (pv 7) pa_nil)) pa_nil)))
      (pss_one (ps_expr (pe_bm PySem.F.plainAttrs_list PySem.F.slot_list_extend PySem.F.type_list_extend mt_extend (pv 3) (pa_cons (pv 7) pa_nil)))))))))))
    (pss_one (ps_ret (pv 3))))))), ?_⟩), F.binds fun _ _ _ _ _ _ us hl => match us, hl with | [_], _ => rfl⟩
  · obtain ⟨_, _, rfl, _⟩ := h
    rfl
  · obtain ⟨a, l, rfl, hsq, hask, k⟩ := h
    obtain ⟨hrun, hlen⟩ := run_all hask
    refine q_mkDe fun d H1 L0 hd e1 c1 hf1 => ?_
    refine q_mkCr (ev_var rfl) fun r H2 hr e2 hcr => ?_
    refine q_asgL (el_lst ea_nil (by decide)) fun fq H3 hfq e3 l3 => ?_
    have c3 := c1.ex (e2.trans e3)
    have ndf : ∀ b, H1 b = none → b ∉ dfoot d L0 := fun b hb z => by
      rcases List.mem_cons.mp z with q | q
      · obtain ⟨dx, o⟩ := c1.ob
        rw [q, o] at hb; cases hb
      · obtain ⟨o, ho⟩ := c1.st.infoot b q
        rw [ho] at hb; cases hb
    have T0 : Turn1 A K H H3 l a d r fq L0 M.fresh 0 l [] (PyVbdbam.answers l) := ⟨(e1.trans e2).trans e3, c3, hcr.ex e3, rfl, Nat.zero_le _, l3, hrun, rfl, ndf r hr, ndf fq (fresh_back e2 hfq), (fun z => by
      obtain ⟨dx, o⟩ := hcr
      rw [← z, o] at hfq; cases hfq), (fun b hb => by
      rcases List.mem_cons.mp hb with q | q
      · rw [q]; exact hd
      · exact hf1 b q), fresh_back e1 hr, fresh_back (e1.trans e2) hfq⟩
    refine q_while (fun n σ' H' => ∃ L m i rest done out v4 v5 v6 v7, σ' = [some (.ref a), some (.ref d), some (.ref r), some (.ref fq), v4, v5, v6, v7] ∧ rest.length = n ∧ Turn1 A K H H' l a d r fq L m i rest done out) l.length ⟨L0, M.fresh, 0, l, [], _, _, _, _, _, rfl, rfl, T0⟩ (fun n σ' H' hw => ?_)
    obtain ⟨L, m, i, rest, done, out, v4, v5, v6, v7, rfl, hn, T⟩ := hw
    have hsq' : SqL K H' a (iV l) := ex_l T.e hsq
    have hrl := congrArg List.length T.dr
    rw [List.length_drop] at hrl
    have hi := T.hi
    refine ⟨!decide ((i : Int) ≥ (l.length : Int)), et_not (et_B (ev_meth (ev_var rfl) T.rd (no_Cr_is_done _ _) ea_nil fun H4 e4 Q' q E' => ⟨r, a, (i : Int), l, rfl, T.rd.ex e4, ex_l e4 hsq', q⟩)), fun hb H4 e4 => ?_, fun hb H4 e4 => ?_⟩
    · have hlt : i < l.length := by
        have : decide ((i : Int) ≥ (l.length : Int)) = false := by
          revert hb
          cases decide ((i : Int) ≥ (l.length : Int)) with
          | false => intro _; rfl
          | true => intro z; cases z
        have := of_decide_eq_false this
        omega
      refine ⟨fun σ2 H2 => ∃ m', m' < n ∧ ∃ L m i rest done out v4 v5 v6 v7, σ2 = [some (.ref a), some (.ref d), some (.ref r), some (.ref fq), v4, v5, v6, v7] ∧ rest.length = m' ∧ Turn1 A K H H2 l a d r fq L m i rest done out, fun _ _ z => z, ?_⟩
      have trun := T.run
      generalize hout : out = out0 at trun
      cases trun with
      | done =>
        rw [List.length_nil] at hrl
        omega
      | @call _ _ p ns row rest' out' g hreads hrun' =>
        have hl := hreads.eq
        have hp0 := hreads.p0
        have hp1 := hreads.p1
        have hdr := T.dr
        rw [hl] at hdr
        have ne0r : ∀ b o, H b = some o → b ≠ r := fun b o hb => ne_of_none hb T.fr
        have kpsq : ∀ H5, Kp r H' H5 → SqL K H5 a (iV l) := fun H5 kp => ex_l (fun b o hb => kp b o (ne0r b o hb) (T.e b o hb)) hsq
        have kp4 : Kp r H' H4 := fun b o _ hb => e4 b o hb
        refine q_next1 (v := p) (ev_var rfl) (T.rd.ex e4) (fun H5 kp => kpsq H5 (kp4.trans kp)) hdr hi fun H5 rd5 kp5 => ?_
        have k5 := kp4.trans kp5
        have hdr5 := drop_next (l := l) (i := i) (xs := [p]) (ys := ns ++ ((if p = 1 then [(row.length : Int)] else []) ++ (row ++ rest'))) hdr
        have hap : ns.length = arity p := hreads.len
        have hnumsq : SqT K H5 A.NUMBERS vals_NUMBERS := X.t_NUMBERS.sq H5
        have hp' : p = ((p.toNat : Nat) : Int) := by omega
        refine q_nextL (xs := ns) (ev_var rfl) (ev_op ev_c (ev_var rfl) (rv_ixT hnumsq (by rw [hp', hap, ← hp']; exact (by rw [hp']; exact atI_nat (by rw [← hp']; exact nums_at hp0 hp1))))) rd5 (fun H6 kp => kpsq H6 (k5.trans kp)) hdr5 (by show i + 1 ≤ l.length; omega) fun na H6 hna rd6 kp6 lna => ?_
        have k6 := k5.trans kp6
        have hdr6 := drop_next (l := l) (i := i + 1) (xs := ns) hdr5
        refine q_asgL (el_lst ea_nil (by decide)) fun ra H7 hra e7 lra => ?_
        have k7 : Kp r H' H7 := k6.trans fun b o _ hb => e7 b o hb
        have rd7 := rd6.ex e7
        have lna7 := e7 _ _ lna
        have hi6 : i + 1 + ns.length ≤ l.length := by
          have := congrArg List.length hdr5
          rw [List.length_drop, List.length_append] at this
          have : [p].length = 1 := rfl
          omega
        -- what follows the row
        have after : ∀ (H8 : Hp) (ra : Addr) (j : Nat), Kp r H' H8 → H8 na = some (.lst (iV ns)) → H8 ra = some (.lst (iV row)) → At H8 r A.Cr (crF a (j : Int)) → l.drop j = rest' → j ≤ l.length →
            tSeq (tAsg (tCall (sp_f_answer_of K A) [] E0 (tCons (tVar 1) (tCons (tVar 4) (tCons (tVar 5) (tCons (tVar 6) tNil))))) (gName 7)) (tSeq (tDrop (tBM K "list" rAppend (tVar 3) (tCons (tCB (rLenS K) (tCons (tVar 7) tNil)) tNil))) (tDrop (tBM K "list" rExtend (tVar 3) (tCons (tVar 7) tNil))))
              { nx := fun σ2 H2 => ∃ m', m' < n ∧ ∃ L m i rest done out v4 v5 v6 v7, σ2 = [some (.ref a), some (.ref d), some (.ref r), some (.ref fq), v4, v5, v6, v7] ∧ rest.length = m' ∧ Turn1 A K H H2 l a d r fq L m i rest done out, rt := Q, bk := tRet (tVar 3) { nx := fun _ H' => Q .non H', rt := Q }, ct := fun σ2 H2 => ∃ m', m' < n ∧ ∃ L m i rest done out v4 v5 v6 v7, σ2 = [some (.ref a), some (.ref d), some (.ref r), some (.ref fq), v4, v5, v6, v7] ∧ rest.length = m' ∧ Turn1 A K H H2 l a d r fq L m i rest done out }
              [some (.ref a), some (.ref d), some (.ref r), some (.ref fq), some (.int p), some (.ref na), some (.ref ra), v7] H8 := fun H8 ra j k8 na8 ra8 rd8 dr8 hj => by
          have c8 : DAt A H8 d L m := T.c.keep fun b o hb ho => k8 b o (fun z => T.n1 (z ▸ hb)) ho
          have ex8 : Ex H H8 := fun b o hb => k8 b o (ne0r b o hb) (T.e b o hb)
          have lf8 := k8 _ _ (Ne.symm T.n3) T.lf
          refine q_call (ea_cons (ev_var rfl) (ea_cons (ev_var rfl) (ea_cons (ev_var rfl) (ea_cons (ev_var rfl) ea_nil)))) fun H9 e9 => ⟨d, L, m, p, na, ns, ra, row, rfl, c8.ex e9, g, e9 _ _ na8, e9 _ _ ra8, ⟨hp0, hp1⟩, hap, fun H10 L10 pa c10 f10 n10 l10 => ?_⟩
          have lf9 := e9 _ _ lf8
          have lf10 := f10.keep _ _ lf9 T.n2
          have pane : fq ≠ pa := n10 _ _ lf9 T.n2
          have ex9 := ex8.trans e9
          have ex10 : Ex H H10 := fun b o hb => f10.keep b o (ex9 b o hb) fun z => by rw [T.f b z] at hb; cases hb
          obtain ⟨dxr, hr9⟩ := rd8.ex e9
          have rd10 : At H10 r A.Cr (crF a (j : Int)) := ⟨dxr, f10.keep _ _ hr9 T.n1⟩
          have n1' : r ∉ dfoot d L10 := fun z => by
            rcases f10.new r z with q | q
            · exact T.n1 q
            · rw [hr9] at q; cases q
          have n2' : fq ∉ dfoot d L10 := fun z => by
            rcases f10.new fq z with q | q
            · exact T.n2 q
            · rw [lf9] at q; cases q
          have f' : ∀ b ∈ dfoot d L10, H b = none := fun b hb => by
            rcases f10.new b hb with q | q
            · exact T.f b q
            · exact fresh_back ex9 q
          generalize hans : answerM m p ns row = ma at c10 l10 hrun' hout
          have hansl : (iV ma.2).length = ma.2.length := iV_len _
          have hbound : done.length + 1 + ma.2.length ≤ 10000000 := by
            have := hlen
            rw [T.ans, hout, List.length_append, List.length_cons, List.length_append] at this
            omega
          refine q_appB lf10 (ev_var rfl) (ev_is (ev_len (ev_var rfl) (SqL.of l10)) (congrArg (fun n : Nat => V.int (n : Int)) hansl)) (by rw [iV_len]; omega) fun H11 e11 => ?_
          have pa11 : upd H11 fq (.lst (iV done ++ [.int (ma.2.length : Int)])) pa = some (.lst (iV ma.2)) := by rw [upd_ne (Ne.symm pane)]; exact e11 _ _ l10
          refine s_extX upd_same (ev_var rfl) (x_of (ev_var rfl) pa11) (by rw [List.length_append, iV_len, iV_len]; show _ + 1 + _ ≤ _; omega) fun H12 e12 => ?_
          have kpf : Kp fq H10 (upd H12 fq (.lst (iV done ++ [.int (ma.2.length : Int)] ++ iV ma.2))) := fun b o nb hb => by
            rw [upd_ne nb]
            refine e12 b o ?_
            rw [upd_ne nb]
            exact e11 b o hb
          have hdn : iV done ++ [V.int (ma.2.length : Int)] ++ iV ma.2 = iV (done ++ ((ma.2.length : Int) :: ma.2)) := by
            show iV done ++ iV [(ma.2.length : Int)] ++ iV ma.2 = _
            rw [iV_app, iV_app, List.append_assoc]
            rfl
          rw [hdn] at kpf ⊢
          have hrest : rest'.length < n := by
            rw [← hn, hl, List.length_cons, List.length_append, List.length_append, List.length_append]
            omega
          refine ⟨rest'.length, hrest, L10, ma.1, j, rest', done ++ ((ma.2.length : Int) :: ma.2), out', _, _, _, _, rfl, rfl, ⟨fun b o hb => kpf b o (ne_of_none hb T.ff) (ex10 b o hb), c10.keep fun b o hb ho => kpf b o (fun z => n2' (z ▸ hb)) ho, ?_, dr8, hj, upd_same, hrun', ?_, n1', n2', T.n3, f', T.fr, T.ff⟩⟩
          · obtain ⟨dx10, q10⟩ := rd10
            exact ⟨dx10, kpf r _ T.n3 q10⟩
          · rw [T.ans, hout]
            simp
        refine q_when (et_test (ev_i0 (ev_op ev_c (ev_var rfl) (rv_ixT (X.t_ROWS.sq H7) (v := .int (if p = 1 then 1 else 0)) (by rw [hp']; exact atI_nat (by rw [← hp']; exact rows_at hp0 hp1)))) ev_c)) (fun hb H8 e8 => ?_) (fun hb H8 e8 => ?_)
        · have c1p : p = 1 := by
            by_cases c : p = 1
            · exact c
            · rw [if_neg c] at hb
              cases hb
          rw [if_pos c1p] at hdr6
          have k8 : Kp r H' H8 := k7.trans fun b o _ hb => e8 b o hb
          refine s_next2 (xs := row) (ys := rest') rfl (rd7.ex e8) (fun H9 kp => kpsq H9 (k8.trans kp)) hdr6 hi6 fun p9 H9 hp9 rd9 kp9 l9 => ?_
          have nna : na ≠ r := fun z => by
            obtain ⟨dx, o⟩ := rd7
            rw [z, o] at lna7; cases lna7
          have hdr9 := drop_next (l := l) (i := i + 1 + ns.length) (xs := [(row.length : Int)]) (ys := row ++ rest') hdr6
          have hdr10 := drop_next (l := l) (i := i + 1 + ns.length + 1) (xs := row) hdr9
          refine after H9 p9 (i + 1 + ns.length + 1 + row.length) (k8.trans kp9) (kp9 _ _ nna (e8 _ _ lna7)) l9 rd9 hdr10 ?_
          have := congrArg List.length hdr6
          rw [List.length_drop, List.length_append, List.length_append] at this
          have : [(row.length : Int)].length = 1 := rfl
          omega
        · have c1p : p ≠ 1 := fun c => by
            rw [if_pos c] at hb
            cases hb
          rw [if_neg c1p, hreads.row0 c1p] at hdr6
          have hrow := hreads.row0 c1p
          refine after H8 ra (i + 1 + ns.length) (k7.trans fun b o _ hb => e8 b o hb) (e8 _ _ lna7) (by rw [hrow]; exact e8 _ _ lra) (rd7.ex e8) hdr6 hi6
    · have hge : i = l.length := by
        have : decide ((i : Int) ≥ (l.length : Int)) = true := by
          revert hb
          cases decide ((i : Int) ≥ (l.length : Int)) with
          | true => intro _; rfl
          | false => intro z; cases z
        have := of_decide_eq_true this
        omega
      have hr0 : rest = [] := by
        have := T.dr
        rw [hge, List.drop_length] at this
        exact this.symm
      have trun := T.run
      rw [hr0] at trun
      have hans := T.ans
      cases trun with
      | done =>
        rw [List.append_nil] at hans
        rw [hans] at k
        exact s_ret (ev_var rfl) fun H5 e5 => k fq H5 T.ff ((T.e.trans e4).trans e5) (e5 _ _ (e4 _ _ T.lf))
      | call g hreads hrun' => cases hreads.eq
end
end Eh

-- EhZ
set_option Elab.async false
set_option linter.all false
set_option maxRecDepth 100000
set_option maxHeartbeats 4000000
namespace Eh
open PySem PySem.Spec PyProof.Rows L2 EhR EhZ
/-! ### the end -/
theorem exm_self {K : PySem.W.Frag} {S : Addr} (h1 : PySem.W.subIn K (.ref S) (.type "BaseException") = some true) (h2 : PySem.W.isClsIn K S = true) (h3 : PySem.W.typeIn K (.ref S) = some (.type "type")) (h4 : PySem.W.subIn K (.ref S) (.ref S) = some true) :
    PySem.W.exmOne K (.ref S) (.ref S) = some true := by
  have e1 : (PySem.W.subIn K (.ref S) (.type "BaseException") == some true) = true := by rw [h1] <;> rfl
  have e2 : ((PySem.W.clsIn K S).isSome && PySem.W.typeIn K (.ref S) == some (.type "type")) = true := by
    have h2' : (PySem.W.clsIn K S).isSome = true := h2
    rw [h2', h3] <;> rfl
  unfold PySem.W.exmOne
  rw [if_pos e1]
  exact (if_pos e2).trans h4
theorem cut_in {K : PySem.W.Frag} {h : Heap} {R : Prop} (X : K.In h) {P : PySem.W.Frag → Prop} (p : P K) (k : P K → R) : R := k p
def PG_consts (K : PySem.W.Frag) (mg : Str → Option Value) : Prop := (mg "len" = none) ∧ (mg "sum" = none) ∧ (mg "max" = none) ∧ (mg "ord" = none) ∧ (mg "int" = none) ∧ (mg "str" = none) ∧ (mg "range" = none) ∧ (mg "enumerate" = none) ∧ (mg "zip" = none) ∧ (CI mg "BLANK" 32) ∧ (CI mg "ROW_END" 10) ∧ (CI mg "MOST_DIGITS" 4) ∧ (CI mg "MOST_PAIRS" 6) ∧ (CI mg "MOST_DAYS" 200) ∧ (CI mg "MOST_PERCENT" 100) ∧ (CI mg "NO_WORD" 1) ∧ (CI mg "TWICE" 2) ∧ (CI mg "NO_NUMBERS" 3) ∧ (CI mg "MOST_ENTRIES" 400) ∧ (CI mg "MOST_SCHOOLS" 30) ∧ (CI mg "CLEAR" 0) ∧ (CI mg "RULES" 1) ∧ (CI mg "SHOW" 2) ∧ (CI mg "ENTER" 3) ∧ (CI mg "WANT" 4) ∧ (CI mg "BRING" 5) ∧ (CI mg "ACCEPT" 6) ∧ (CI mg "DECLINE" 7) ∧ (CI mg "DROP" 8) ∧ (CI mg "TRANSFER" 9) ∧ (CI mg "PAY" 10) ∧ (CI mg "PAYOUT" 11) ∧ (CI mg "NIGHT" 12) ∧ (CI mg "CLOSE" 13) ∧ (CI mg "SCHOOL" 14) ∧ (CI mg "ACCOUNT" 15) ∧ (CI mg "OFFERS" 16) ∧ (CI mg "QUEUE" 17) ∧ (CI mg "MONEY" 18) ∧ (CI mg "MOST_TEXT" 1000) ∧ (CI mg "MOST_DAY" 1000)
theorem grp_consts {K : PySem.W.Frag} {h : Heap} {mg : Str → Option Value} (X : K.In h) (G : h.Ns mainGlobals mg)
    {t_BLANK t_ROW_END t_MOST_DIGITS t_MOST_PAIRS t_MOST_DAYS t_MOST_PERCENT t_NO_WORD t_TWICE t_NO_NUMBERS t_MOST_ENTRIES t_MOST_SCHOOLS t_CLEAR t_RULES t_SHOW t_ENTER t_WANT t_BRING t_ACCEPT t_DECLINE t_DROP t_TRANSFER t_PAY t_PAYOUT t_NIGHT t_CLOSE t_SCHOOL t_ACCOUNT t_OFFERS t_QUEUE t_MONEY t_MOST_TEXT t_MOST_DAY : Tok}
    (b_len : PySem.W.nsIn K mainGlobals "len" = some none)
    (b_sum : PySem.W.nsIn K mainGlobals "sum" = some none)
    (b_max : PySem.W.nsIn K mainGlobals "max" = some none)
    (b_ord : PySem.W.nsIn K mainGlobals "ord" = some none)
    (b_int : PySem.W.nsIn K mainGlobals "int" = some none)
    (b_str : PySem.W.nsIn K mainGlobals "str" = some none)
    (b_range : PySem.W.nsIn K mainGlobals "range" = some none)
    (b_enumerate : PySem.W.nsIn K mainGlobals "enumerate" = some none)
    (b_zip : PySem.W.nsIn K mainGlobals "zip" = some none)
    (c_BLANK : PySem.W.nsIn K mainGlobals "BLANK" = some (some (.int 32 t_BLANK)))
    (c_ROW_END : PySem.W.nsIn K mainGlobals "ROW_END" = some (some (.int 10 t_ROW_END)))
    (c_MOST_DIGITS : PySem.W.nsIn K mainGlobals "MOST_DIGITS" = some (some (.int 4 t_MOST_DIGITS)))
    (c_MOST_PAIRS : PySem.W.nsIn K mainGlobals "MOST_PAIRS" = some (some (.int 6 t_MOST_PAIRS)))
    (c_MOST_DAYS : PySem.W.nsIn K mainGlobals "MOST_DAYS" = some (some (.int 200 t_MOST_DAYS)))
    (c_MOST_PERCENT : PySem.W.nsIn K mainGlobals "MOST_PERCENT" = some (some (.int 100 t_MOST_PERCENT)))
    (c_NO_WORD : PySem.W.nsIn K mainGlobals "NO_WORD" = some (some (.int 1 t_NO_WORD)))
    (c_TWICE : PySem.W.nsIn K mainGlobals "TWICE" = some (some (.int 2 t_TWICE)))
    (c_NO_NUMBERS : PySem.W.nsIn K mainGlobals "NO_NUMBERS" = some (some (.int 3 t_NO_NUMBERS)))
    (c_MOST_ENTRIES : PySem.W.nsIn K mainGlobals "MOST_ENTRIES" = some (some (.int 400 t_MOST_ENTRIES)))
    (c_MOST_SCHOOLS : PySem.W.nsIn K mainGlobals "MOST_SCHOOLS" = some (some (.int 30 t_MOST_SCHOOLS)))
    (c_CLEAR : PySem.W.nsIn K mainGlobals "CLEAR" = some (some (.int 0 t_CLEAR)))
    (c_RULES : PySem.W.nsIn K mainGlobals "RULES" = some (some (.int 1 t_RULES)))
    (c_SHOW : PySem.W.nsIn K mainGlobals "SHOW" = some (some (.int 2 t_SHOW)))
    (c_ENTER : PySem.W.nsIn K mainGlobals "ENTER" = some (some (.int 3 t_ENTER)))
    (c_WANT : PySem.W.nsIn K mainGlobals "WANT" = some (some (.int 4 t_WANT)))
    (c_BRING : PySem.W.nsIn K mainGlobals "BRING" = some (some (.int 5 t_BRING)))
    (c_ACCEPT : PySem.W.nsIn K mainGlobals "ACCEPT" = some (some (.int 6 t_ACCEPT)))
    (c_DECLINE : PySem.W.nsIn K mainGlobals "DECLINE" = some (some (.int 7 t_DECLINE)))
    (c_DROP : PySem.W.nsIn K mainGlobals "DROP" = some (some (.int 8 t_DROP)))
    (c_TRANSFER : PySem.W.nsIn K mainGlobals "TRANSFER" = some (some (.int 9 t_TRANSFER)))
    (c_PAY : PySem.W.nsIn K mainGlobals "PAY" = some (some (.int 10 t_PAY)))
    (c_PAYOUT : PySem.W.nsIn K mainGlobals "PAYOUT" = some (some (.int 11 t_PAYOUT)))
    (c_NIGHT : PySem.W.nsIn K mainGlobals "NIGHT" = some (some (.int 12 t_NIGHT)))
    (c_CLOSE : PySem.W.nsIn K mainGlobals "CLOSE" = some (some (.int 13 t_CLOSE)))
    (c_SCHOOL : PySem.W.nsIn K mainGlobals "SCHOOL" = some (some (.int 14 t_SCHOOL)))
    (c_ACCOUNT : PySem.W.nsIn K mainGlobals "ACCOUNT" = some (some (.int 15 t_ACCOUNT)))
    (c_OFFERS : PySem.W.nsIn K mainGlobals "OFFERS" = some (some (.int 16 t_OFFERS)))
    (c_QUEUE : PySem.W.nsIn K mainGlobals "QUEUE" = some (some (.int 17 t_QUEUE)))
    (c_MONEY : PySem.W.nsIn K mainGlobals "MONEY" = some (some (.int 18 t_MONEY)))
    (c_MOST_TEXT : PySem.W.nsIn K mainGlobals "MOST_TEXT" = some (some (.int 1000 t_MOST_TEXT)))
    (c_MOST_DAY : PySem.W.nsIn K mainGlobals "MOST_DAY" = some (some (.int 1000 t_MOST_DAY))) : PG_consts K mg :=
  ⟨PySem.W.mg_none_of X G b_len, PySem.W.mg_none_of X G b_sum, PySem.W.mg_none_of X G b_max, PySem.W.mg_none_of X G b_ord, PySem.W.mg_none_of X G b_int, PySem.W.mg_none_of X G b_str, PySem.W.mg_none_of X G b_range, PySem.W.mg_none_of X G b_enumerate, PySem.W.mg_none_of X G b_zip, ⟨_, PySem.W.mg_of X G c_BLANK⟩, ⟨_, PySem.W.mg_of X G c_ROW_END⟩, ⟨_, PySem.W.mg_of X G c_MOST_DIGITS⟩, ⟨_, PySem.W.mg_of X G c_MOST_PAIRS⟩, ⟨_, PySem.W.mg_of X G c_MOST_DAYS⟩, ⟨_, PySem.W.mg_of X G c_MOST_PERCENT⟩, ⟨_, PySem.W.mg_of X G c_NO_WORD⟩, ⟨_, PySem.W.mg_of X G c_TWICE⟩, ⟨_, PySem.W.mg_of X G c_NO_NUMBERS⟩, ⟨_, PySem.W.mg_of X G c_MOST_ENTRIES⟩, ⟨_, PySem.W.mg_of X G c_MOST_SCHOOLS⟩, ⟨_, PySem.W.mg_of X G c_CLEAR⟩, ⟨_, PySem.W.mg_of X G c_RULES⟩, ⟨_, PySem.W.mg_of X G c_SHOW⟩, ⟨_, PySem.W.mg_of X G c_ENTER⟩, ⟨_, PySem.W.mg_of X G c_WANT⟩, ⟨_, PySem.W.mg_of X G c_BRING⟩, ⟨_, PySem.W.mg_of X G c_ACCEPT⟩, ⟨_, PySem.W.mg_of X G c_DECLINE⟩, ⟨_, PySem.W.mg_of X G c_DROP⟩, ⟨_, PySem.W.mg_of X G c_TRANSFER⟩, ⟨_, PySem.W.mg_of X G c_PAY⟩, ⟨_, PySem.W.mg_of X G c_PAYOUT⟩, ⟨_, PySem.W.mg_of X G c_NIGHT⟩, ⟨_, PySem.W.mg_of X G c_CLOSE⟩, ⟨_, PySem.W.mg_of X G c_SCHOOL⟩, ⟨_, PySem.W.mg_of X G c_ACCOUNT⟩, ⟨_, PySem.W.mg_of X G c_OFFERS⟩, ⟨_, PySem.W.mg_of X G c_QUEUE⟩, ⟨_, PySem.W.mg_of X G c_MONEY⟩, ⟨_, PySem.W.mg_of X G c_MOST_TEXT⟩, ⟨_, PySem.W.mg_of X G c_MOST_DAY⟩⟩
def PG_ORDER (K : PySem.W.Frag) (mg : Str → Option Value) : Prop := ∃ a : Addr, (mg "ORDER" = some (.ref a)) ∧ (Tp K a vals_ORDER)
theorem grp_ORDER {K : PySem.W.Frag} {h : Heap} {mg : Str → Option Value} (X : K.In h) (G : h.Ns mainGlobals mg) {a : Addr} {oc : Value} {od : Option Addr} {its : Array Value} {n : Nat} {sl : Array (Option Value)}
    (c_ORDER : PySem.W.nsIn K mainGlobals "ORDER" = some (some (.ref a)))
    (l_ORDER : K.lookup a = some ⟨oc, od, .seq its n, sl⟩)
    (o_ORDER : oc = .type "tuple")
    (z_ORDER : its.size ≤ sizeLine)
    (v_ORDER : Vals vals_ORDER its.toList) : PG_ORDER K mg :=
  ⟨a, PySem.W.mg_of X G c_ORDER, ⟨_, its, n, l_ORDER, o_ORDER, rfl, z_ORDER, v_ORDER⟩⟩
def PG_NUMBERS (K : PySem.W.Frag) (mg : Str → Option Value) : Prop := ∃ a : Addr, (mg "NUMBERS" = some (.ref a)) ∧ (Tp K a vals_NUMBERS)
theorem grp_NUMBERS {K : PySem.W.Frag} {h : Heap} {mg : Str → Option Value} (X : K.In h) (G : h.Ns mainGlobals mg) {a : Addr} {oc : Value} {od : Option Addr} {its : Array Value} {n : Nat} {sl : Array (Option Value)}
    (c_NUMBERS : PySem.W.nsIn K mainGlobals "NUMBERS" = some (some (.ref a)))
    (l_NUMBERS : K.lookup a = some ⟨oc, od, .seq its n, sl⟩)
    (o_NUMBERS : oc = .type "tuple")
    (z_NUMBERS : its.size ≤ sizeLine)
    (v_NUMBERS : Vals vals_NUMBERS its.toList) : PG_NUMBERS K mg :=
  ⟨a, PySem.W.mg_of X G c_NUMBERS, ⟨_, its, n, l_NUMBERS, o_NUMBERS, rfl, z_NUMBERS, v_NUMBERS⟩⟩
def PG_ROWS (K : PySem.W.Frag) (mg : Str → Option Value) : Prop := ∃ a : Addr, (mg "ROWS" = some (.ref a)) ∧ (Tp K a vals_ROWS)
theorem grp_ROWS {K : PySem.W.Frag} {h : Heap} {mg : Str → Option Value} (X : K.In h) (G : h.Ns mainGlobals mg) {a : Addr} {oc : Value} {od : Option Addr} {its : Array Value} {n : Nat} {sl : Array (Option Value)}
    (c_ROWS : PySem.W.nsIn K mainGlobals "ROWS" = some (some (.ref a)))
    (l_ROWS : K.lookup a = some ⟨oc, od, .seq its n, sl⟩)
    (o_ROWS : oc = .type "tuple")
    (z_ROWS : its.size ≤ sizeLine)
    (v_ROWS : Vals vals_ROWS its.toList) : PG_ROWS K mg :=
  ⟨a, PySem.W.mg_of X G c_ROWS, ⟨_, its, n, l_ROWS, o_ROWS, rfl, z_ROWS, v_ROWS⟩⟩
def PG_Wr (K : PySem.W.Frag) (mg : Str → Option Value) : Prop := ∃ (C f_Wr_init : Addr), (mg "WrongRow" = some (.ref C)) ∧ (NoAttr K C "kind") ∧ (NoAttr K C "row") ∧ (OexC K C) ∧ (PySem.W.findIn K (.ref C) "__init__" = some (some (.ref f_Wr_init))) ∧ (PySem.W.typeIn K (.ref f_Wr_init) = some (.type "function")) ∧ (XfC K C) ∧ (PySem.W.exmOne K (.ref C) (.ref C) = some true) ∧ (Fn K "__init__" "WrongRow.__init__" s_Wr_init f_Wr_init)
theorem grp_Wr {K : PySem.W.Frag} {h : Heap} {mg : Str → Option Value} (X : K.In h) (G : h.Ns mainGlobals mg)
    {C f_Wr_init : Addr}
    {nmWr qWr : Str} {NWr : Addr} {bsWr bmWr : List Value}
    {oc_Wr_init kV_Wr_init dc_Wr_init pm_Wr_init cd_Wr_init ct_Wr_init : Value} {od_Wr_init an_Wr_init : Option Addr} {sl_Wr_init : Array (Option Value)}
    {snWr subWr abWr colWr ddWr k0Wr k1Wr k2Wr k3Wr k5Wr}
    (g_Wr : PySem.W.nsIn K mainGlobals "WrongRow" = some (some (.ref C)))
    (na_Wr_kind : PySem.W.findIn K (.ref C) "kind" = some none)
    (na_Wr_row : PySem.W.findIn K (.ref C) "row" = some none)
    (i_Wr : PySem.W.findIn K (.ref C) "__init__" = some (some (.ref f_Wr_init)))
    (x_Wr : K.lookup C = some (excClassObj nmWr qWr C NWr bsWr bmWr true snWr subWr abWr colWr ddWr k0Wr k1Wr k2Wr k3Wr k5Wr "ValueError.__new__"))
    (sa_Wr : PySem.W.findIn K (.ref C) "__setattr__" = some (some (.builtin "object.__setattr__")))
    (ga_Wr : PySem.W.findIn K (.ref C) "__getattribute__" = some (some (.builtin "BaseException.__getattribute__")))
    (gg_Wr : PySem.W.findIn K (.ref C) "__getattr__" = some none)
    (ex_Wr : PySem.W.subIn K (.ref C) (.type "BaseException") = some true)
    (ty_Wr : PySem.W.typeIn K (.ref C) = some (.type "type"))
    (kc_Wr : PySem.W.keepIn K (.ref C) = true)
    (hd_Wr : PySem.W.hasDictIn K C = true)
    (ic_Wr : PySem.W.isClsIn K C = true)
    (ss_Wr : PySem.W.subIn K (.ref C) (.ref C) = some true)
    (ti_Wr : PySem.W.typeIn K (.ref f_Wr_init) = some (.type "function"))
    (vb_Wr : PySem.HandSPX.refsVE bmWr = true)
    (l_Wr_init : K.lookup f_Wr_init = some ⟨oc_Wr_init, od_Wr_init, .func (PySem.W.fnOf "__init__" "WrongRow.__init__" (defArgs s_Wr_init) (defBody s_Wr_init) (defScope s_Wr_init) .none kV_Wr_init dc_Wr_init pm_Wr_init an_Wr_init cd_Wr_init ct_Wr_init), sl_Wr_init⟩)
    (d_Wr_init : PySem.W.codeIn K cd_Wr_init "WrongRow.__init__" = true)
    (k_Wr_init : PySem.W.keepIn K (.ref f_Wr_init) = true) : PG_Wr K mg :=
  ⟨C, f_Wr_init, PySem.W.mg_of X G g_Wr, na_Wr_kind, na_Wr_row, ⟨⟨_, _, _, _, _, _, _, _, _, _, _, _, _, _, _, x_Wr, vb_Wr⟩, sa_Wr, ex_Wr, ty_Wr, kc_Wr⟩, i_Wr, ti_Wr, ⟨ga_Wr, gg_Wr, ex_Wr, hd_Wr⟩, exm_self ex_Wr ic_Wr ty_Wr ss_Wr, ⟨_, fun_mk (st := s_Wr_init) l_Wr_init d_Wr_init k_Wr_init⟩⟩
def PG_Ru (K : PySem.W.Frag) (mg : Str → Option Value) : Prop := ∃ (C f_Ru_init f_Ru_put f_Ru_rows f_Ru_owed f_Ru_percent f_Ru_given_back f_Ru_shown : Addr), (mg "Rules" = some (.ref C)) ∧ (NoAttr K C "places") ∧ (NoAttr K C "form") ∧ (NoAttr K C "cap") ∧ (NoAttr K C "judges") ∧ (NoAttr K C "fee") ∧ (NoAttr K C "fine") ∧ (NoAttr K C "answer") ∧ (NoAttr K C "begin") ∧ (NoAttr K C "back") ∧ (Cls K C) ∧ (Mk K C f_Ru_init) ∧ (Fn K "__init__" "Rules.__init__" s_Ru_init f_Ru_init) ∧ (Fn K "put" "Rules.put" s_Ru_put f_Ru_put) ∧ (Meth K C "put" f_Ru_put) ∧ (Fn K "rows" "Rules.rows" s_Ru_rows f_Ru_rows) ∧ (Meth K C "rows" f_Ru_rows) ∧ (Fn K "owed" "Rules.owed" s_Ru_owed f_Ru_owed) ∧ (Meth K C "owed" f_Ru_owed) ∧ (Fn K "percent" "Rules.percent" s_Ru_percent f_Ru_percent) ∧ (Meth K C "percent" f_Ru_percent) ∧ (Fn K "given_back" "Rules.given_back" s_Ru_given_back f_Ru_given_back) ∧ (Meth K C "given_back" f_Ru_given_back) ∧ (Fn K "shown" "Rules.shown" s_Ru_shown f_Ru_shown) ∧ (Meth K C "shown" f_Ru_shown)
theorem grp_Ru {K : PySem.W.Frag} {h : Heap} {mg : Str → Option Value} (X : K.In h) (G : h.Ns mainGlobals mg)
    {C f_Ru_init f_Ru_put f_Ru_rows f_Ru_owed f_Ru_percent f_Ru_given_back f_Ru_shown : Addr}
    {oc_Ru_init kV_Ru_init dc_Ru_init pm_Ru_init cd_Ru_init ct_Ru_init : Value} {od_Ru_init an_Ru_init : Option Addr} {sl_Ru_init : Array (Option Value)}
    {oc_Ru_put kV_Ru_put dc_Ru_put pm_Ru_put cd_Ru_put ct_Ru_put : Value} {od_Ru_put an_Ru_put : Option Addr} {sl_Ru_put : Array (Option Value)}
    {oc_Ru_rows kV_Ru_rows dc_Ru_rows pm_Ru_rows cd_Ru_rows ct_Ru_rows : Value} {od_Ru_rows an_Ru_rows : Option Addr} {sl_Ru_rows : Array (Option Value)}
    {oc_Ru_owed kV_Ru_owed dc_Ru_owed pm_Ru_owed cd_Ru_owed ct_Ru_owed : Value} {od_Ru_owed an_Ru_owed : Option Addr} {sl_Ru_owed : Array (Option Value)}
    {oc_Ru_percent kV_Ru_percent dc_Ru_percent pm_Ru_percent cd_Ru_percent ct_Ru_percent : Value} {od_Ru_percent an_Ru_percent : Option Addr} {sl_Ru_percent : Array (Option Value)}
    {oc_Ru_given_back kV_Ru_given_back dc_Ru_given_back pm_Ru_given_back cd_Ru_given_back ct_Ru_given_back : Value} {od_Ru_given_back an_Ru_given_back : Option Addr} {sl_Ru_given_back : Array (Option Value)}
    {oc_Ru_shown kV_Ru_shown dc_Ru_shown pm_Ru_shown cd_Ru_shown ct_Ru_shown : Value} {od_Ru_shown an_Ru_shown : Option Addr} {sl_Ru_shown : Array (Option Value)}
    (g_Ru : PySem.W.nsIn K mainGlobals "Rules" = some (some (.ref C)))
    (na_Ru_places : PySem.W.findIn K (.ref C) "places" = some none)
    (na_Ru_form : PySem.W.findIn K (.ref C) "form" = some none)
    (na_Ru_cap : PySem.W.findIn K (.ref C) "cap" = some none)
    (na_Ru_judges : PySem.W.findIn K (.ref C) "judges" = some none)
    (na_Ru_fee : PySem.W.findIn K (.ref C) "fee" = some none)
    (na_Ru_fine : PySem.W.findIn K (.ref C) "fine" = some none)
    (na_Ru_answer : PySem.W.findIn K (.ref C) "answer" = some none)
    (na_Ru_begin : PySem.W.findIn K (.ref C) "begin" = some none)
    (na_Ru_back : PySem.W.findIn K (.ref C) "back" = some none)
    (i_Ru : PySem.W.findIn K (.ref C) "__init__" = some (some (.ref f_Ru_init)))
    (pg_Ru : PySem.W.plainGet K C Str.empty = true)
    (hd_Ru : PySem.W.hasDictIn K C = true)
    (po_Ru : PySem.W.plainOver K C = true)
    (sa_Ru : PySem.W.findIn K (.ref C) "__setattr__" = some (some (.builtin "object.__setattr__")))
    (mk_Ru : PySem.W.makesIn K C = true)
    (fi_Ru : PySem.W.isFn K (.ref f_Ru_init) = true)
    (kc_Ru : PySem.W.keepIn K (.ref C) = true)
    (l_Ru_init : K.lookup f_Ru_init = some ⟨oc_Ru_init, od_Ru_init, .func (PySem.W.fnOf "__init__" "Rules.__init__" (defArgs s_Ru_init) (defBody s_Ru_init) (defScope s_Ru_init) .none kV_Ru_init dc_Ru_init pm_Ru_init an_Ru_init cd_Ru_init ct_Ru_init), sl_Ru_init⟩)
    (d_Ru_init : PySem.W.codeIn K cd_Ru_init "Rules.__init__" = true)
    (k_Ru_init : PySem.W.keepIn K (.ref f_Ru_init) = true)
    (a_Ru_put : PySem.W.findIn K (.ref C) "put" = some (some (.ref f_Ru_put)))
    (n_Ru_put : PySem.W.isFn K (.ref f_Ru_put) = true)
    (l_Ru_put : K.lookup f_Ru_put = some ⟨oc_Ru_put, od_Ru_put, .func (PySem.W.fnOf "put" "Rules.put" (defArgs s_Ru_put) (defBody s_Ru_put) (defScope s_Ru_put) .none kV_Ru_put dc_Ru_put pm_Ru_put an_Ru_put cd_Ru_put ct_Ru_put), sl_Ru_put⟩)
    (d_Ru_put : PySem.W.codeIn K cd_Ru_put "Rules.put" = true)
    (k_Ru_put : PySem.W.keepIn K (.ref f_Ru_put) = true)
    (a_Ru_rows : PySem.W.findIn K (.ref C) "rows" = some (some (.ref f_Ru_rows)))
    (n_Ru_rows : PySem.W.isFn K (.ref f_Ru_rows) = true)
    (l_Ru_rows : K.lookup f_Ru_rows = some ⟨oc_Ru_rows, od_Ru_rows, .func (PySem.W.fnOf "rows" "Rules.rows" (defArgs s_Ru_rows) (defBody s_Ru_rows) (defScope s_Ru_rows) .none kV_Ru_rows dc_Ru_rows pm_Ru_rows an_Ru_rows cd_Ru_rows ct_Ru_rows), sl_Ru_rows⟩)
    (d_Ru_rows : PySem.W.codeIn K cd_Ru_rows "Rules.rows" = true)
    (k_Ru_rows : PySem.W.keepIn K (.ref f_Ru_rows) = true)
    (a_Ru_owed : PySem.W.findIn K (.ref C) "owed" = some (some (.ref f_Ru_owed)))
    (n_Ru_owed : PySem.W.isFn K (.ref f_Ru_owed) = true)
    (l_Ru_owed : K.lookup f_Ru_owed = some ⟨oc_Ru_owed, od_Ru_owed, .func (PySem.W.fnOf "owed" "Rules.owed" (defArgs s_Ru_owed) (defBody s_Ru_owed) (defScope s_Ru_owed) .none kV_Ru_owed dc_Ru_owed pm_Ru_owed an_Ru_owed cd_Ru_owed ct_Ru_owed), sl_Ru_owed⟩)
    (d_Ru_owed : PySem.W.codeIn K cd_Ru_owed "Rules.owed" = true)
    (k_Ru_owed : PySem.W.keepIn K (.ref f_Ru_owed) = true)
    (a_Ru_percent : PySem.W.findIn K (.ref C) "percent" = some (some (.ref f_Ru_percent)))
    (n_Ru_percent : PySem.W.isFn K (.ref f_Ru_percent) = true)
    (l_Ru_percent : K.lookup f_Ru_percent = some ⟨oc_Ru_percent, od_Ru_percent, .func (PySem.W.fnOf "percent" "Rules.percent" (defArgs s_Ru_percent) (defBody s_Ru_percent) (defScope s_Ru_percent) .none kV_Ru_percent dc_Ru_percent pm_Ru_percent an_Ru_percent cd_Ru_percent ct_Ru_percent), sl_Ru_percent⟩)
    (d_Ru_percent : PySem.W.codeIn K cd_Ru_percent "Rules.percent" = true)
    (k_Ru_percent : PySem.W.keepIn K (.ref f_Ru_percent) = true)
    (a_Ru_given_back : PySem.W.findIn K (.ref C) "given_back" = some (some (.ref f_Ru_given_back)))
    (n_Ru_given_back : PySem.W.isFn K (.ref f_Ru_given_back) = true)
    (l_Ru_given_back : K.lookup f_Ru_given_back = some ⟨oc_Ru_given_back, od_Ru_given_back, .func (PySem.W.fnOf "given_back" "Rules.given_back" (defArgs s_Ru_given_back) (defBody s_Ru_given_back) (defScope s_Ru_given_back) .none kV_Ru_given_back dc_Ru_given_back pm_Ru_given_back an_Ru_given_back cd_Ru_given_back ct_Ru_given_back), sl_Ru_given_back⟩)
    (d_Ru_given_back : PySem.W.codeIn K cd_Ru_given_back "Rules.given_back" = true)
    (k_Ru_given_back : PySem.W.keepIn K (.ref f_Ru_given_back) = true)
    (a_Ru_shown : PySem.W.findIn K (.ref C) "shown" = some (some (.ref f_Ru_shown)))
    (n_Ru_shown : PySem.W.isFn K (.ref f_Ru_shown) = true)
    (l_Ru_shown : K.lookup f_Ru_shown = some ⟨oc_Ru_shown, od_Ru_shown, .func (PySem.W.fnOf "shown" "Rules.shown" (defArgs s_Ru_shown) (defBody s_Ru_shown) (defScope s_Ru_shown) .none kV_Ru_shown dc_Ru_shown pm_Ru_shown an_Ru_shown cd_Ru_shown ct_Ru_shown), sl_Ru_shown⟩)
    (d_Ru_shown : PySem.W.codeIn K cd_Ru_shown "Rules.shown" = true)
    (k_Ru_shown : PySem.W.keepIn K (.ref f_Ru_shown) = true) : PG_Ru K mg :=
  ⟨C, f_Ru_init, f_Ru_put, f_Ru_rows, f_Ru_owed, f_Ru_percent, f_Ru_given_back, f_Ru_shown, PySem.W.mg_of X G g_Ru, na_Ru_places, na_Ru_form, na_Ru_cap, na_Ru_judges, na_Ru_fee, na_Ru_fine, na_Ru_answer, na_Ru_begin, na_Ru_back, ⟨pg_Ru, hd_Ru, po_Ru, sa_Ru⟩, ⟨mk_Ru, i_Ru, fi_Ru, kc_Ru⟩, ⟨_, fun_mk (st := s_Ru_init) l_Ru_init d_Ru_init k_Ru_init⟩, ⟨_, fun_mk (st := s_Ru_put) l_Ru_put d_Ru_put k_Ru_put⟩, ⟨a_Ru_put, n_Ru_put, k_Ru_put⟩, ⟨_, fun_mk (st := s_Ru_rows) l_Ru_rows d_Ru_rows k_Ru_rows⟩, ⟨a_Ru_rows, n_Ru_rows, k_Ru_rows⟩, ⟨_, fun_mk (st := s_Ru_owed) l_Ru_owed d_Ru_owed k_Ru_owed⟩, ⟨a_Ru_owed, n_Ru_owed, k_Ru_owed⟩, ⟨_, fun_mk (st := s_Ru_percent) l_Ru_percent d_Ru_percent k_Ru_percent⟩, ⟨a_Ru_percent, n_Ru_percent, k_Ru_percent⟩, ⟨_, fun_mk (st := s_Ru_given_back) l_Ru_given_back d_Ru_given_back k_Ru_given_back⟩, ⟨a_Ru_given_back, n_Ru_given_back, k_Ru_given_back⟩, ⟨_, fun_mk (st := s_Ru_shown) l_Ru_shown d_Ru_shown k_Ru_shown⟩, ⟨a_Ru_shown, n_Ru_shown, k_Ru_shown⟩⟩
def PG_Sc (K : PySem.W.Frag) (mg : Str → Option Value) : Prop := ∃ (C f_Sc_init f_Sc_account f_Sc_money : Addr), (mg "School" = some (.ref C)) ∧ (NoAttr K C "number") ∧ (NoAttr K C "wanted") ∧ (NoAttr K C "has") ∧ (NoAttr K C "judges") ∧ (NoAttr K C "paid") ∧ (NoAttr K C "fees") ∧ (NoAttr K C "given") ∧ (NoAttr K C "fines") ∧ (NoAttr K C "out") ∧ (Cls K C) ∧ (Mk K C f_Sc_init) ∧ (Fn K "__init__" "School.__init__" s_Sc_init f_Sc_init) ∧ (Fn K "account" "School.account" s_Sc_account f_Sc_account) ∧ (Meth K C "account" f_Sc_account) ∧ (Fn K "money" "School.money" s_Sc_money f_Sc_money) ∧ (Meth K C "money" f_Sc_money)
theorem grp_Sc {K : PySem.W.Frag} {h : Heap} {mg : Str → Option Value} (X : K.In h) (G : h.Ns mainGlobals mg)
    {C f_Sc_init f_Sc_account f_Sc_money : Addr}
    {oc_Sc_init kV_Sc_init dc_Sc_init pm_Sc_init cd_Sc_init ct_Sc_init : Value} {od_Sc_init an_Sc_init : Option Addr} {sl_Sc_init : Array (Option Value)}
    {oc_Sc_account kV_Sc_account dc_Sc_account pm_Sc_account cd_Sc_account ct_Sc_account : Value} {od_Sc_account an_Sc_account : Option Addr} {sl_Sc_account : Array (Option Value)}
    {oc_Sc_money kV_Sc_money dc_Sc_money pm_Sc_money cd_Sc_money ct_Sc_money : Value} {od_Sc_money an_Sc_money : Option Addr} {sl_Sc_money : Array (Option Value)}
    (g_Sc : PySem.W.nsIn K mainGlobals "School" = some (some (.ref C)))
    (na_Sc_number : PySem.W.findIn K (.ref C) "number" = some none)
    (na_Sc_wanted : PySem.W.findIn K (.ref C) "wanted" = some none)
    (na_Sc_has : PySem.W.findIn K (.ref C) "has" = some none)
    (na_Sc_judges : PySem.W.findIn K (.ref C) "judges" = some none)
    (na_Sc_paid : PySem.W.findIn K (.ref C) "paid" = some none)
    (na_Sc_fees : PySem.W.findIn K (.ref C) "fees" = some none)
    (na_Sc_given : PySem.W.findIn K (.ref C) "given" = some none)
    (na_Sc_fines : PySem.W.findIn K (.ref C) "fines" = some none)
    (na_Sc_out : PySem.W.findIn K (.ref C) "out" = some none)
    (i_Sc : PySem.W.findIn K (.ref C) "__init__" = some (some (.ref f_Sc_init)))
    (pg_Sc : PySem.W.plainGet K C Str.empty = true)
    (hd_Sc : PySem.W.hasDictIn K C = true)
    (po_Sc : PySem.W.plainOver K C = true)
    (sa_Sc : PySem.W.findIn K (.ref C) "__setattr__" = some (some (.builtin "object.__setattr__")))
    (mk_Sc : PySem.W.makesIn K C = true)
    (fi_Sc : PySem.W.isFn K (.ref f_Sc_init) = true)
    (kc_Sc : PySem.W.keepIn K (.ref C) = true)
    (l_Sc_init : K.lookup f_Sc_init = some ⟨oc_Sc_init, od_Sc_init, .func (PySem.W.fnOf "__init__" "School.__init__" (defArgs s_Sc_init) (defBody s_Sc_init) (defScope s_Sc_init) .none kV_Sc_init dc_Sc_init pm_Sc_init an_Sc_init cd_Sc_init ct_Sc_init), sl_Sc_init⟩)
    (d_Sc_init : PySem.W.codeIn K cd_Sc_init "School.__init__" = true)
    (k_Sc_init : PySem.W.keepIn K (.ref f_Sc_init) = true)
    (a_Sc_account : PySem.W.findIn K (.ref C) "account" = some (some (.ref f_Sc_account)))
    (n_Sc_account : PySem.W.isFn K (.ref f_Sc_account) = true)
    (l_Sc_account : K.lookup f_Sc_account = some ⟨oc_Sc_account, od_Sc_account, .func (PySem.W.fnOf "account" "School.account" (defArgs s_Sc_account) (defBody s_Sc_account) (defScope s_Sc_account) .none kV_Sc_account dc_Sc_account pm_Sc_account an_Sc_account cd_Sc_account ct_Sc_account), sl_Sc_account⟩)
    (d_Sc_account : PySem.W.codeIn K cd_Sc_account "School.account" = true)
    (k_Sc_account : PySem.W.keepIn K (.ref f_Sc_account) = true)
    (a_Sc_money : PySem.W.findIn K (.ref C) "money" = some (some (.ref f_Sc_money)))
    (n_Sc_money : PySem.W.isFn K (.ref f_Sc_money) = true)
    (l_Sc_money : K.lookup f_Sc_money = some ⟨oc_Sc_money, od_Sc_money, .func (PySem.W.fnOf "money" "School.money" (defArgs s_Sc_money) (defBody s_Sc_money) (defScope s_Sc_money) .none kV_Sc_money dc_Sc_money pm_Sc_money an_Sc_money cd_Sc_money ct_Sc_money), sl_Sc_money⟩)
    (d_Sc_money : PySem.W.codeIn K cd_Sc_money "School.money" = true)
    (k_Sc_money : PySem.W.keepIn K (.ref f_Sc_money) = true) : PG_Sc K mg :=
  ⟨C, f_Sc_init, f_Sc_account, f_Sc_money, PySem.W.mg_of X G g_Sc, na_Sc_number, na_Sc_wanted, na_Sc_has, na_Sc_judges, na_Sc_paid, na_Sc_fees, na_Sc_given, na_Sc_fines, na_Sc_out, ⟨pg_Sc, hd_Sc, po_Sc, sa_Sc⟩, ⟨mk_Sc, i_Sc, fi_Sc, kc_Sc⟩, ⟨_, fun_mk (st := s_Sc_init) l_Sc_init d_Sc_init k_Sc_init⟩, ⟨_, fun_mk (st := s_Sc_account) l_Sc_account d_Sc_account k_Sc_account⟩, ⟨a_Sc_account, n_Sc_account, k_Sc_account⟩, ⟨_, fun_mk (st := s_Sc_money) l_Sc_money d_Sc_money k_Sc_money⟩, ⟨a_Sc_money, n_Sc_money, k_Sc_money⟩⟩
def PG_Of (K : PySem.W.Frag) (mg : Str → Option Value) : Prop := ∃ (C f_Of_init : Addr), (mg "Offer" = some (.ref C)) ∧ (NoAttr K C "number") ∧ (NoAttr K C "school") ∧ (NoAttr K C "day") ∧ (Cls K C) ∧ (Mk K C f_Of_init) ∧ (Fn K "__init__" "Offer.__init__" s_Of_init f_Of_init)
theorem grp_Of {K : PySem.W.Frag} {h : Heap} {mg : Str → Option Value} (X : K.In h) (G : h.Ns mainGlobals mg)
    {C f_Of_init : Addr}
    {oc_Of_init kV_Of_init dc_Of_init pm_Of_init cd_Of_init ct_Of_init : Value} {od_Of_init an_Of_init : Option Addr} {sl_Of_init : Array (Option Value)}
    (g_Of : PySem.W.nsIn K mainGlobals "Offer" = some (some (.ref C)))
    (na_Of_number : PySem.W.findIn K (.ref C) "number" = some none)
    (na_Of_school : PySem.W.findIn K (.ref C) "school" = some none)
    (na_Of_day : PySem.W.findIn K (.ref C) "day" = some none)
    (i_Of : PySem.W.findIn K (.ref C) "__init__" = some (some (.ref f_Of_init)))
    (pg_Of : PySem.W.plainGet K C Str.empty = true)
    (hd_Of : PySem.W.hasDictIn K C = true)
    (po_Of : PySem.W.plainOver K C = true)
    (sa_Of : PySem.W.findIn K (.ref C) "__setattr__" = some (some (.builtin "object.__setattr__")))
    (mk_Of : PySem.W.makesIn K C = true)
    (fi_Of : PySem.W.isFn K (.ref f_Of_init) = true)
    (kc_Of : PySem.W.keepIn K (.ref C) = true)
    (l_Of_init : K.lookup f_Of_init = some ⟨oc_Of_init, od_Of_init, .func (PySem.W.fnOf "__init__" "Offer.__init__" (defArgs s_Of_init) (defBody s_Of_init) (defScope s_Of_init) .none kV_Of_init dc_Of_init pm_Of_init an_Of_init cd_Of_init ct_Of_init), sl_Of_init⟩)
    (d_Of_init : PySem.W.codeIn K cd_Of_init "Offer.__init__" = true)
    (k_Of_init : PySem.W.keepIn K (.ref f_Of_init) = true) : PG_Of K mg :=
  ⟨C, f_Of_init, PySem.W.mg_of X G g_Of, na_Of_number, na_Of_school, na_Of_day, ⟨pg_Of, hd_Of, po_Of, sa_Of⟩, ⟨mk_Of, i_Of, fi_Of, kc_Of⟩, ⟨_, fun_mk (st := s_Of_init) l_Of_init d_Of_init k_Of_init⟩⟩
def PG_St (K : PySem.W.Frag) (mg : Str → Option Value) : Prop := ∃ (C f_St_init f_St_school_at f_St_offer_at f_St_standing f_St_load f_St_loads f_St_taken f_St_waits f_St_following f_St_queue f_St_make_offers f_St_pass_night f_St_take_away f_St_missing f_St_close : Addr), (mg "State" = some (.ref C)) ∧ (NoAttr K C "rules") ∧ (NoAttr K C "schools") ∧ (NoAttr K C "offers") ∧ (NoAttr K C "made") ∧ (NoAttr K C "day") ∧ (NoAttr K C "is_closed") ∧ (NoAttr K C "entries") ∧ (Cls K C) ∧ (Mk K C f_St_init) ∧ (Fn K "__init__" "State.__init__" s_St_init f_St_init) ∧ (Fn K "school_at" "State.school_at" s_St_school_at f_St_school_at) ∧ (Meth K C "school_at" f_St_school_at) ∧ (Fn K "offer_at" "State.offer_at" s_St_offer_at f_St_offer_at) ∧ (Meth K C "offer_at" f_St_offer_at) ∧ (Fn K "standing" "State.standing" s_St_standing f_St_standing) ∧ (Meth K C "standing" f_St_standing) ∧ (Fn K "load" "State.load" s_St_load f_St_load) ∧ (Meth K C "load" f_St_load) ∧ (Fn K "loads" "State.loads" s_St_loads f_St_loads) ∧ (Meth K C "loads" f_St_loads) ∧ (Fn K "taken" "State.taken" s_St_taken f_St_taken) ∧ (Meth K C "taken" f_St_taken) ∧ (Fn K "waits" "State.waits" s_St_waits f_St_waits) ∧ (Meth K C "waits" f_St_waits) ∧ (Fn K "following" "State.following" s_St_following f_St_following) ∧ (Meth K C "following" f_St_following) ∧ (Fn K "queue" "State.queue" s_St_queue f_St_queue) ∧ (Meth K C "queue" f_St_queue) ∧ (Fn K "make_offers" "State.make_offers" s_St_make_offers f_St_make_offers) ∧ (Meth K C "make_offers" f_St_make_offers) ∧ (Fn K "pass_night" "State.pass_night" s_St_pass_night f_St_pass_night) ∧ (Meth K C "pass_night" f_St_pass_night) ∧ (Fn K "take_away" "State.take_away" s_St_take_away f_St_take_away) ∧ (Meth K C "take_away" f_St_take_away) ∧ (Fn K "missing" "State.missing" s_St_missing f_St_missing) ∧ (Meth K C "missing" f_St_missing) ∧ (Fn K "close" "State.close" s_St_close f_St_close) ∧ (Meth K C "close" f_St_close)
theorem grp_St {K : PySem.W.Frag} {h : Heap} {mg : Str → Option Value} (X : K.In h) (G : h.Ns mainGlobals mg)
    {C f_St_init f_St_school_at f_St_offer_at f_St_standing f_St_load f_St_loads f_St_taken f_St_waits f_St_following f_St_queue f_St_make_offers f_St_pass_night f_St_take_away f_St_missing f_St_close : Addr}
    {oc_St_init kV_St_init dc_St_init pm_St_init cd_St_init ct_St_init : Value} {od_St_init an_St_init : Option Addr} {sl_St_init : Array (Option Value)}
    {oc_St_school_at kV_St_school_at dc_St_school_at pm_St_school_at cd_St_school_at ct_St_school_at : Value} {od_St_school_at an_St_school_at : Option Addr} {sl_St_school_at : Array (Option Value)}
    {oc_St_offer_at kV_St_offer_at dc_St_offer_at pm_St_offer_at cd_St_offer_at ct_St_offer_at : Value} {od_St_offer_at an_St_offer_at : Option Addr} {sl_St_offer_at : Array (Option Value)}
    {oc_St_standing kV_St_standing dc_St_standing pm_St_standing cd_St_standing ct_St_standing : Value} {od_St_standing an_St_standing : Option Addr} {sl_St_standing : Array (Option Value)}
    {oc_St_load kV_St_load dc_St_load pm_St_load cd_St_load ct_St_load : Value} {od_St_load an_St_load : Option Addr} {sl_St_load : Array (Option Value)}
    {oc_St_loads kV_St_loads dc_St_loads pm_St_loads cd_St_loads ct_St_loads : Value} {od_St_loads an_St_loads : Option Addr} {sl_St_loads : Array (Option Value)}
    {oc_St_taken kV_St_taken dc_St_taken pm_St_taken cd_St_taken ct_St_taken : Value} {od_St_taken an_St_taken : Option Addr} {sl_St_taken : Array (Option Value)}
    {oc_St_waits kV_St_waits dc_St_waits pm_St_waits cd_St_waits ct_St_waits : Value} {od_St_waits an_St_waits : Option Addr} {sl_St_waits : Array (Option Value)}
    {oc_St_following kV_St_following dc_St_following pm_St_following cd_St_following ct_St_following : Value} {od_St_following an_St_following : Option Addr} {sl_St_following : Array (Option Value)}
    {oc_St_queue kV_St_queue dc_St_queue pm_St_queue cd_St_queue ct_St_queue : Value} {od_St_queue an_St_queue : Option Addr} {sl_St_queue : Array (Option Value)}
    {oc_St_make_offers kV_St_make_offers dc_St_make_offers pm_St_make_offers cd_St_make_offers ct_St_make_offers : Value} {od_St_make_offers an_St_make_offers : Option Addr} {sl_St_make_offers : Array (Option Value)}
    {oc_St_pass_night kV_St_pass_night dc_St_pass_night pm_St_pass_night cd_St_pass_night ct_St_pass_night : Value} {od_St_pass_night an_St_pass_night : Option Addr} {sl_St_pass_night : Array (Option Value)}
    {oc_St_take_away kV_St_take_away dc_St_take_away pm_St_take_away cd_St_take_away ct_St_take_away : Value} {od_St_take_away an_St_take_away : Option Addr} {sl_St_take_away : Array (Option Value)}
    {oc_St_missing kV_St_missing dc_St_missing pm_St_missing cd_St_missing ct_St_missing : Value} {od_St_missing an_St_missing : Option Addr} {sl_St_missing : Array (Option Value)}
    {oc_St_close kV_St_close dc_St_close pm_St_close cd_St_close ct_St_close : Value} {od_St_close an_St_close : Option Addr} {sl_St_close : Array (Option Value)}
    (g_St : PySem.W.nsIn K mainGlobals "State" = some (some (.ref C)))
    (na_St_rules : PySem.W.findIn K (.ref C) "rules" = some none)
    (na_St_schools : PySem.W.findIn K (.ref C) "schools" = some none)
    (na_St_offers : PySem.W.findIn K (.ref C) "offers" = some none)
    (na_St_made : PySem.W.findIn K (.ref C) "made" = some none)
    (na_St_day : PySem.W.findIn K (.ref C) "day" = some none)
    (na_St_is_closed : PySem.W.findIn K (.ref C) "is_closed" = some none)
    (na_St_entries : PySem.W.findIn K (.ref C) "entries" = some none)
    (i_St : PySem.W.findIn K (.ref C) "__init__" = some (some (.ref f_St_init)))
    (pg_St : PySem.W.plainGet K C Str.empty = true)
    (hd_St : PySem.W.hasDictIn K C = true)
    (po_St : PySem.W.plainOver K C = true)
    (sa_St : PySem.W.findIn K (.ref C) "__setattr__" = some (some (.builtin "object.__setattr__")))
    (mk_St : PySem.W.makesIn K C = true)
    (fi_St : PySem.W.isFn K (.ref f_St_init) = true)
    (kc_St : PySem.W.keepIn K (.ref C) = true)
    (l_St_init : K.lookup f_St_init = some ⟨oc_St_init, od_St_init, .func (PySem.W.fnOf "__init__" "State.__init__" (defArgs s_St_init) (defBody s_St_init) (defScope s_St_init) .none kV_St_init dc_St_init pm_St_init an_St_init cd_St_init ct_St_init), sl_St_init⟩)
    (d_St_init : PySem.W.codeIn K cd_St_init "State.__init__" = true)
    (k_St_init : PySem.W.keepIn K (.ref f_St_init) = true)
    (a_St_school_at : PySem.W.findIn K (.ref C) "school_at" = some (some (.ref f_St_school_at)))
    (n_St_school_at : PySem.W.isFn K (.ref f_St_school_at) = true)
    (l_St_school_at : K.lookup f_St_school_at = some ⟨oc_St_school_at, od_St_school_at, .func (PySem.W.fnOf "school_at" "State.school_at" (defArgs s_St_school_at) (defBody s_St_school_at) (defScope s_St_school_at) .none kV_St_school_at dc_St_school_at pm_St_school_at an_St_school_at cd_St_school_at ct_St_school_at), sl_St_school_at⟩)
    (d_St_school_at : PySem.W.codeIn K cd_St_school_at "State.school_at" = true)
    (k_St_school_at : PySem.W.keepIn K (.ref f_St_school_at) = true)
    (a_St_offer_at : PySem.W.findIn K (.ref C) "offer_at" = some (some (.ref f_St_offer_at)))
    (n_St_offer_at : PySem.W.isFn K (.ref f_St_offer_at) = true)
    (l_St_offer_at : K.lookup f_St_offer_at = some ⟨oc_St_offer_at, od_St_offer_at, .func (PySem.W.fnOf "offer_at" "State.offer_at" (defArgs s_St_offer_at) (defBody s_St_offer_at) (defScope s_St_offer_at) .none kV_St_offer_at dc_St_offer_at pm_St_offer_at an_St_offer_at cd_St_offer_at ct_St_offer_at), sl_St_offer_at⟩)
    (d_St_offer_at : PySem.W.codeIn K cd_St_offer_at "State.offer_at" = true)
    (k_St_offer_at : PySem.W.keepIn K (.ref f_St_offer_at) = true)
    (a_St_standing : PySem.W.findIn K (.ref C) "standing" = some (some (.ref f_St_standing)))
    (n_St_standing : PySem.W.isFn K (.ref f_St_standing) = true)
    (l_St_standing : K.lookup f_St_standing = some ⟨oc_St_standing, od_St_standing, .func (PySem.W.fnOf "standing" "State.standing" (defArgs s_St_standing) (defBody s_St_standing) (defScope s_St_standing) .none kV_St_standing dc_St_standing pm_St_standing an_St_standing cd_St_standing ct_St_standing), sl_St_standing⟩)
    (d_St_standing : PySem.W.codeIn K cd_St_standing "State.standing" = true)
    (k_St_standing : PySem.W.keepIn K (.ref f_St_standing) = true)
    (a_St_load : PySem.W.findIn K (.ref C) "load" = some (some (.ref f_St_load)))
    (n_St_load : PySem.W.isFn K (.ref f_St_load) = true)
    (l_St_load : K.lookup f_St_load = some ⟨oc_St_load, od_St_load, .func (PySem.W.fnOf "load" "State.load" (defArgs s_St_load) (defBody s_St_load) (defScope s_St_load) .none kV_St_load dc_St_load pm_St_load an_St_load cd_St_load ct_St_load), sl_St_load⟩)
    (d_St_load : PySem.W.codeIn K cd_St_load "State.load" = true)
    (k_St_load : PySem.W.keepIn K (.ref f_St_load) = true)
    (a_St_loads : PySem.W.findIn K (.ref C) "loads" = some (some (.ref f_St_loads)))
    (n_St_loads : PySem.W.isFn K (.ref f_St_loads) = true)
    (l_St_loads : K.lookup f_St_loads = some ⟨oc_St_loads, od_St_loads, .func (PySem.W.fnOf "loads" "State.loads" (defArgs s_St_loads) (defBody s_St_loads) (defScope s_St_loads) .none kV_St_loads dc_St_loads pm_St_loads an_St_loads cd_St_loads ct_St_loads), sl_St_loads⟩)
    (d_St_loads : PySem.W.codeIn K cd_St_loads "State.loads" = true)
    (k_St_loads : PySem.W.keepIn K (.ref f_St_loads) = true)
    (a_St_taken : PySem.W.findIn K (.ref C) "taken" = some (some (.ref f_St_taken)))
    (n_St_taken : PySem.W.isFn K (.ref f_St_taken) = true)
    (l_St_taken : K.lookup f_St_taken = some ⟨oc_St_taken, od_St_taken, .func (PySem.W.fnOf "taken" "State.taken" (defArgs s_St_taken) (defBody s_St_taken) (defScope s_St_taken) .none kV_St_taken dc_St_taken pm_St_taken an_St_taken cd_St_taken ct_St_taken), sl_St_taken⟩)
    (d_St_taken : PySem.W.codeIn K cd_St_taken "State.taken" = true)
    (k_St_taken : PySem.W.keepIn K (.ref f_St_taken) = true)
    (a_St_waits : PySem.W.findIn K (.ref C) "waits" = some (some (.ref f_St_waits)))
    (n_St_waits : PySem.W.isFn K (.ref f_St_waits) = true)
    (l_St_waits : K.lookup f_St_waits = some ⟨oc_St_waits, od_St_waits, .func (PySem.W.fnOf "waits" "State.waits" (defArgs s_St_waits) (defBody s_St_waits) (defScope s_St_waits) .none kV_St_waits dc_St_waits pm_St_waits an_St_waits cd_St_waits ct_St_waits), sl_St_waits⟩)
    (d_St_waits : PySem.W.codeIn K cd_St_waits "State.waits" = true)
    (k_St_waits : PySem.W.keepIn K (.ref f_St_waits) = true)
    (a_St_following : PySem.W.findIn K (.ref C) "following" = some (some (.ref f_St_following)))
    (n_St_following : PySem.W.isFn K (.ref f_St_following) = true)
    (l_St_following : K.lookup f_St_following = some ⟨oc_St_following, od_St_following, .func (PySem.W.fnOf "following" "State.following" (defArgs s_St_following) (defBody s_St_following) (defScope s_St_following) .none kV_St_following dc_St_following pm_St_following an_St_following cd_St_following ct_St_following), sl_St_following⟩)
    (d_St_following : PySem.W.codeIn K cd_St_following "State.following" = true)
    (k_St_following : PySem.W.keepIn K (.ref f_St_following) = true)
    (a_St_queue : PySem.W.findIn K (.ref C) "queue" = some (some (.ref f_St_queue)))
    (n_St_queue : PySem.W.isFn K (.ref f_St_queue) = true)
    (l_St_queue : K.lookup f_St_queue = some ⟨oc_St_queue, od_St_queue, .func (PySem.W.fnOf "queue" "State.queue" (defArgs s_St_queue) (defBody s_St_queue) (defScope s_St_queue) .none kV_St_queue dc_St_queue pm_St_queue an_St_queue cd_St_queue ct_St_queue), sl_St_queue⟩)
    (d_St_queue : PySem.W.codeIn K cd_St_queue "State.queue" = true)
    (k_St_queue : PySem.W.keepIn K (.ref f_St_queue) = true)
    (a_St_make_offers : PySem.W.findIn K (.ref C) "make_offers" = some (some (.ref f_St_make_offers)))
    (n_St_make_offers : PySem.W.isFn K (.ref f_St_make_offers) = true)
    (l_St_make_offers : K.lookup f_St_make_offers = some ⟨oc_St_make_offers, od_St_make_offers, .func (PySem.W.fnOf "make_offers" "State.make_offers" (defArgs s_St_make_offers) (defBody s_St_make_offers) (defScope s_St_make_offers) .none kV_St_make_offers dc_St_make_offers pm_St_make_offers an_St_make_offers cd_St_make_offers ct_St_make_offers), sl_St_make_offers⟩)
    (d_St_make_offers : PySem.W.codeIn K cd_St_make_offers "State.make_offers" = true)
    (k_St_make_offers : PySem.W.keepIn K (.ref f_St_make_offers) = true)
    (a_St_pass_night : PySem.W.findIn K (.ref C) "pass_night" = some (some (.ref f_St_pass_night)))
    (n_St_pass_night : PySem.W.isFn K (.ref f_St_pass_night) = true)
    (l_St_pass_night : K.lookup f_St_pass_night = some ⟨oc_St_pass_night, od_St_pass_night, .func (PySem.W.fnOf "pass_night" "State.pass_night" (defArgs s_St_pass_night) (defBody s_St_pass_night) (defScope s_St_pass_night) .none kV_St_pass_night dc_St_pass_night pm_St_pass_night an_St_pass_night cd_St_pass_night ct_St_pass_night), sl_St_pass_night⟩)
    (d_St_pass_night : PySem.W.codeIn K cd_St_pass_night "State.pass_night" = true)
    (k_St_pass_night : PySem.W.keepIn K (.ref f_St_pass_night) = true)
    (a_St_take_away : PySem.W.findIn K (.ref C) "take_away" = some (some (.ref f_St_take_away)))
    (n_St_take_away : PySem.W.isFn K (.ref f_St_take_away) = true)
    (l_St_take_away : K.lookup f_St_take_away = some ⟨oc_St_take_away, od_St_take_away, .func (PySem.W.fnOf "take_away" "State.take_away" (defArgs s_St_take_away) (defBody s_St_take_away) (defScope s_St_take_away) .none kV_St_take_away dc_St_take_away pm_St_take_away an_St_take_away cd_St_take_away ct_St_take_away), sl_St_take_away⟩)
    (d_St_take_away : PySem.W.codeIn K cd_St_take_away "State.take_away" = true)
    (k_St_take_away : PySem.W.keepIn K (.ref f_St_take_away) = true)
    (a_St_missing : PySem.W.findIn K (.ref C) "missing" = some (some (.ref f_St_missing)))
    (n_St_missing : PySem.W.isFn K (.ref f_St_missing) = true)
    (l_St_missing : K.lookup f_St_missing = some ⟨oc_St_missing, od_St_missing, .func (PySem.W.fnOf "missing" "State.missing" (defArgs s_St_missing) (defBody s_St_missing) (defScope s_St_missing) .none kV_St_missing dc_St_missing pm_St_missing an_St_missing cd_St_missing ct_St_missing), sl_St_missing⟩)
    (d_St_missing : PySem.W.codeIn K cd_St_missing "State.missing" = true)
    (k_St_missing : PySem.W.keepIn K (.ref f_St_missing) = true)
    (a_St_close : PySem.W.findIn K (.ref C) "close" = some (some (.ref f_St_close)))
    (n_St_close : PySem.W.isFn K (.ref f_St_close) = true)
    (l_St_close : K.lookup f_St_close = some ⟨oc_St_close, od_St_close, .func (PySem.W.fnOf "close" "State.close" (defArgs s_St_close) (defBody s_St_close) (defScope s_St_close) .none kV_St_close dc_St_close pm_St_close an_St_close cd_St_close ct_St_close), sl_St_close⟩)
    (d_St_close : PySem.W.codeIn K cd_St_close "State.close" = true)
    (k_St_close : PySem.W.keepIn K (.ref f_St_close) = true) : PG_St K mg :=
  ⟨C, f_St_init, f_St_school_at, f_St_offer_at, f_St_standing, f_St_load, f_St_loads, f_St_taken, f_St_waits, f_St_following, f_St_queue, f_St_make_offers, f_St_pass_night, f_St_take_away, f_St_missing, f_St_close, PySem.W.mg_of X G g_St, na_St_rules, na_St_schools, na_St_offers, na_St_made, na_St_day, na_St_is_closed, na_St_entries, ⟨pg_St, hd_St, po_St, sa_St⟩, ⟨mk_St, i_St, fi_St, kc_St⟩, ⟨_, fun_mk (st := s_St_init) l_St_init d_St_init k_St_init⟩, ⟨_, fun_mk (st := s_St_school_at) l_St_school_at d_St_school_at k_St_school_at⟩, ⟨a_St_school_at, n_St_school_at, k_St_school_at⟩, ⟨_, fun_mk (st := s_St_offer_at) l_St_offer_at d_St_offer_at k_St_offer_at⟩, ⟨a_St_offer_at, n_St_offer_at, k_St_offer_at⟩, ⟨_, fun_mk (st := s_St_standing) l_St_standing d_St_standing k_St_standing⟩, ⟨a_St_standing, n_St_standing, k_St_standing⟩, ⟨_, fun_mk (st := s_St_load) l_St_load d_St_load k_St_load⟩, ⟨a_St_load, n_St_load, k_St_load⟩, ⟨_, fun_mk (st := s_St_loads) l_St_loads d_St_loads k_St_loads⟩, ⟨a_St_loads, n_St_loads, k_St_loads⟩, ⟨_, fun_mk (st := s_St_taken) l_St_taken d_St_taken k_St_taken⟩, ⟨a_St_taken, n_St_taken, k_St_taken⟩, ⟨_, fun_mk (st := s_St_waits) l_St_waits d_St_waits k_St_waits⟩, ⟨a_St_waits, n_St_waits, k_St_waits⟩, ⟨_, fun_mk (st := s_St_following) l_St_following d_St_following k_St_following⟩, ⟨a_St_following, n_St_following, k_St_following⟩, ⟨_, fun_mk (st := s_St_queue) l_St_queue d_St_queue k_St_queue⟩, ⟨a_St_queue, n_St_queue, k_St_queue⟩, ⟨_, fun_mk (st := s_St_make_offers) l_St_make_offers d_St_make_offers k_St_make_offers⟩, ⟨a_St_make_offers, n_St_make_offers, k_St_make_offers⟩, ⟨_, fun_mk (st := s_St_pass_night) l_St_pass_night d_St_pass_night k_St_pass_night⟩, ⟨a_St_pass_night, n_St_pass_night, k_St_pass_night⟩, ⟨_, fun_mk (st := s_St_take_away) l_St_take_away d_St_take_away k_St_take_away⟩, ⟨a_St_take_away, n_St_take_away, k_St_take_away⟩, ⟨_, fun_mk (st := s_St_missing) l_St_missing d_St_missing k_St_missing⟩, ⟨a_St_missing, n_St_missing, k_St_missing⟩, ⟨_, fun_mk (st := s_St_close) l_St_close d_St_close k_St_close⟩, ⟨a_St_close, n_St_close, k_St_close⟩⟩
def PG_Re (K : PySem.W.Frag) (mg : Str → Option Value) : Prop := ∃ (C f_Re_init : Addr), (mg "Refused" = some (.ref C)) ∧ (NoAttr K C "why") ∧ (OexC K C) ∧ (PySem.W.findIn K (.ref C) "__init__" = some (some (.ref f_Re_init))) ∧ (PySem.W.typeIn K (.ref f_Re_init) = some (.type "function")) ∧ (XfC K C) ∧ (PySem.W.exmOne K (.ref C) (.ref C) = some true) ∧ (Fn K "__init__" "Refused.__init__" s_Re_init f_Re_init)
theorem grp_Re {K : PySem.W.Frag} {h : Heap} {mg : Str → Option Value} (X : K.In h) (G : h.Ns mainGlobals mg)
    {C f_Re_init : Addr}
    {nmRe qRe : Str} {NRe : Addr} {bsRe bmRe : List Value}
    {oc_Re_init kV_Re_init dc_Re_init pm_Re_init cd_Re_init ct_Re_init : Value} {od_Re_init an_Re_init : Option Addr} {sl_Re_init : Array (Option Value)}
    {snRe subRe abRe colRe ddRe k0Re k1Re k2Re k3Re k5Re}
    (g_Re : PySem.W.nsIn K mainGlobals "Refused" = some (some (.ref C)))
    (na_Re_why : PySem.W.findIn K (.ref C) "why" = some none)
    (i_Re : PySem.W.findIn K (.ref C) "__init__" = some (some (.ref f_Re_init)))
    (x_Re : K.lookup C = some (excClassObj nmRe qRe C NRe bsRe bmRe true snRe subRe abRe colRe ddRe k0Re k1Re k2Re k3Re k5Re "ValueError.__new__"))
    (sa_Re : PySem.W.findIn K (.ref C) "__setattr__" = some (some (.builtin "object.__setattr__")))
    (ga_Re : PySem.W.findIn K (.ref C) "__getattribute__" = some (some (.builtin "BaseException.__getattribute__")))
    (gg_Re : PySem.W.findIn K (.ref C) "__getattr__" = some none)
    (ex_Re : PySem.W.subIn K (.ref C) (.type "BaseException") = some true)
    (ty_Re : PySem.W.typeIn K (.ref C) = some (.type "type"))
    (kc_Re : PySem.W.keepIn K (.ref C) = true)
    (hd_Re : PySem.W.hasDictIn K C = true)
    (ic_Re : PySem.W.isClsIn K C = true)
    (ss_Re : PySem.W.subIn K (.ref C) (.ref C) = some true)
    (ti_Re : PySem.W.typeIn K (.ref f_Re_init) = some (.type "function"))
    (vb_Re : PySem.HandSPX.refsVE bmRe = true)
    (l_Re_init : K.lookup f_Re_init = some ⟨oc_Re_init, od_Re_init, .func (PySem.W.fnOf "__init__" "Refused.__init__" (defArgs s_Re_init) (defBody s_Re_init) (defScope s_Re_init) .none kV_Re_init dc_Re_init pm_Re_init an_Re_init cd_Re_init ct_Re_init), sl_Re_init⟩)
    (d_Re_init : PySem.W.codeIn K cd_Re_init "Refused.__init__" = true)
    (k_Re_init : PySem.W.keepIn K (.ref f_Re_init) = true) : PG_Re K mg :=
  ⟨C, f_Re_init, PySem.W.mg_of X G g_Re, na_Re_why, ⟨⟨_, _, _, _, _, _, _, _, _, _, _, _, _, _, _, x_Re, vb_Re⟩, sa_Re, ex_Re, ty_Re, kc_Re⟩, i_Re, ti_Re, ⟨ga_Re, gg_Re, ex_Re, hd_Re⟩, exm_self ex_Re ic_Re ty_Re ss_Re, ⟨_, fun_mk (st := s_Re_init) l_Re_init d_Re_init k_Re_init⟩⟩
def PG_De (K : PySem.W.Frag) (mg : Str → Option Value) : Prop := ∃ (C f_De_init f_De_look_up f_De_offer f_De_look_closed f_De_look_entries f_De_clear f_De_put_rules f_De_enter f_De_want f_De_bring f_De_accept f_De_decline f_De_drop f_De_transfer f_De_pay f_De_payout f_De_night f_De_close f_De_school_told f_De_offers_told f_De_money f_De_counts : Addr), (mg "Desk" = some (.ref C)) ∧ (NoAttr K C "state") ∧ (Cls K C) ∧ (Mk K C f_De_init) ∧ (Fn K "__init__" "Desk.__init__" s_De_init f_De_init) ∧ (Fn K "look_up" "Desk.look_up" s_De_look_up f_De_look_up) ∧ (Meth K C "look_up" f_De_look_up) ∧ (Fn K "offer" "Desk.offer" s_De_offer f_De_offer) ∧ (Meth K C "offer" f_De_offer) ∧ (Fn K "look_closed" "Desk.look_closed" s_De_look_closed f_De_look_closed) ∧ (Meth K C "look_closed" f_De_look_closed) ∧ (Fn K "look_entries" "Desk.look_entries" s_De_look_entries f_De_look_entries) ∧ (Meth K C "look_entries" f_De_look_entries) ∧ (Fn K "clear" "Desk.clear" s_De_clear f_De_clear) ∧ (Meth K C "clear" f_De_clear) ∧ (Fn K "put_rules" "Desk.put_rules" s_De_put_rules f_De_put_rules) ∧ (Meth K C "put_rules" f_De_put_rules) ∧ (Fn K "enter" "Desk.enter" s_De_enter f_De_enter) ∧ (Meth K C "enter" f_De_enter) ∧ (Fn K "want" "Desk.want" s_De_want f_De_want) ∧ (Meth K C "want" f_De_want) ∧ (Fn K "bring" "Desk.bring" s_De_bring f_De_bring) ∧ (Meth K C "bring" f_De_bring) ∧ (Fn K "accept" "Desk.accept" s_De_accept f_De_accept) ∧ (Meth K C "accept" f_De_accept) ∧ (Fn K "decline" "Desk.decline" s_De_decline f_De_decline) ∧ (Meth K C "decline" f_De_decline) ∧ (Fn K "drop" "Desk.drop" s_De_drop f_De_drop) ∧ (Meth K C "drop" f_De_drop) ∧ (Fn K "transfer" "Desk.transfer" s_De_transfer f_De_transfer) ∧ (Meth K C "transfer" f_De_transfer) ∧ (Fn K "pay" "Desk.pay" s_De_pay f_De_pay) ∧ (Meth K C "pay" f_De_pay) ∧ (Fn K "payout" "Desk.payout" s_De_payout f_De_payout) ∧ (Meth K C "payout" f_De_payout) ∧ (Fn K "night" "Desk.night" s_De_night f_De_night) ∧ (Meth K C "night" f_De_night) ∧ (Fn K "close" "Desk.close" s_De_close f_De_close) ∧ (Meth K C "close" f_De_close) ∧ (Fn K "school_told" "Desk.school_told" s_De_school_told f_De_school_told) ∧ (Meth K C "school_told" f_De_school_told) ∧ (Fn K "offers_told" "Desk.offers_told" s_De_offers_told f_De_offers_told) ∧ (Meth K C "offers_told" f_De_offers_told) ∧ (Fn K "money" "Desk.money" s_De_money f_De_money) ∧ (Meth K C "money" f_De_money) ∧ (Fn K "counts" "Desk.counts" s_De_counts f_De_counts) ∧ (Meth K C "counts" f_De_counts)
theorem grp_De {K : PySem.W.Frag} {h : Heap} {mg : Str → Option Value} (X : K.In h) (G : h.Ns mainGlobals mg)
    {C f_De_init f_De_look_up f_De_offer f_De_look_closed f_De_look_entries f_De_clear f_De_put_rules f_De_enter f_De_want f_De_bring f_De_accept f_De_decline f_De_drop f_De_transfer f_De_pay f_De_payout f_De_night f_De_close f_De_school_told f_De_offers_told f_De_money f_De_counts : Addr}
    {oc_De_init kV_De_init dc_De_init pm_De_init cd_De_init ct_De_init : Value} {od_De_init an_De_init : Option Addr} {sl_De_init : Array (Option Value)}
    {oc_De_look_up kV_De_look_up dc_De_look_up pm_De_look_up cd_De_look_up ct_De_look_up : Value} {od_De_look_up an_De_look_up : Option Addr} {sl_De_look_up : Array (Option Value)}
    {oc_De_offer kV_De_offer dc_De_offer pm_De_offer cd_De_offer ct_De_offer : Value} {od_De_offer an_De_offer : Option Addr} {sl_De_offer : Array (Option Value)}
    {oc_De_look_closed kV_De_look_closed dc_De_look_closed pm_De_look_closed cd_De_look_closed ct_De_look_closed : Value} {od_De_look_closed an_De_look_closed : Option Addr} {sl_De_look_closed : Array (Option Value)}
    {oc_De_look_entries kV_De_look_entries dc_De_look_entries pm_De_look_entries cd_De_look_entries ct_De_look_entries : Value} {od_De_look_entries an_De_look_entries : Option Addr} {sl_De_look_entries : Array (Option Value)}
    {oc_De_clear kV_De_clear dc_De_clear pm_De_clear cd_De_clear ct_De_clear : Value} {od_De_clear an_De_clear : Option Addr} {sl_De_clear : Array (Option Value)}
    {oc_De_put_rules kV_De_put_rules dc_De_put_rules pm_De_put_rules cd_De_put_rules ct_De_put_rules : Value} {od_De_put_rules an_De_put_rules : Option Addr} {sl_De_put_rules : Array (Option Value)}
    {oc_De_enter kV_De_enter dc_De_enter pm_De_enter cd_De_enter ct_De_enter : Value} {od_De_enter an_De_enter : Option Addr} {sl_De_enter : Array (Option Value)}
    {oc_De_want kV_De_want dc_De_want pm_De_want cd_De_want ct_De_want : Value} {od_De_want an_De_want : Option Addr} {sl_De_want : Array (Option Value)}
    {oc_De_bring kV_De_bring dc_De_bring pm_De_bring cd_De_bring ct_De_bring : Value} {od_De_bring an_De_bring : Option Addr} {sl_De_bring : Array (Option Value)}
    {oc_De_accept kV_De_accept dc_De_accept pm_De_accept cd_De_accept ct_De_accept : Value} {od_De_accept an_De_accept : Option Addr} {sl_De_accept : Array (Option Value)}
    {oc_De_decline kV_De_decline dc_De_decline pm_De_decline cd_De_decline ct_De_decline : Value} {od_De_decline an_De_decline : Option Addr} {sl_De_decline : Array (Option Value)}
    {oc_De_drop kV_De_drop dc_De_drop pm_De_drop cd_De_drop ct_De_drop : Value} {od_De_drop an_De_drop : Option Addr} {sl_De_drop : Array (Option Value)}
    {oc_De_transfer kV_De_transfer dc_De_transfer pm_De_transfer cd_De_transfer ct_De_transfer : Value} {od_De_transfer an_De_transfer : Option Addr} {sl_De_transfer : Array (Option Value)}
    {oc_De_pay kV_De_pay dc_De_pay pm_De_pay cd_De_pay ct_De_pay : Value} {od_De_pay an_De_pay : Option Addr} {sl_De_pay : Array (Option Value)}
    {oc_De_payout kV_De_payout dc_De_payout pm_De_payout cd_De_payout ct_De_payout : Value} {od_De_payout an_De_payout : Option Addr} {sl_De_payout : Array (Option Value)}
    {oc_De_night kV_De_night dc_De_night pm_De_night cd_De_night ct_De_night : Value} {od_De_night an_De_night : Option Addr} {sl_De_night : Array (Option Value)}
    {oc_De_close kV_De_close dc_De_close pm_De_close cd_De_close ct_De_close : Value} {od_De_close an_De_close : Option Addr} {sl_De_close : Array (Option Value)}
    {oc_De_school_told kV_De_school_told dc_De_school_told pm_De_school_told cd_De_school_told ct_De_school_told : Value} {od_De_school_told an_De_school_told : Option Addr} {sl_De_school_told : Array (Option Value)}
    {oc_De_offers_told kV_De_offers_told dc_De_offers_told pm_De_offers_told cd_De_offers_told ct_De_offers_told : Value} {od_De_offers_told an_De_offers_told : Option Addr} {sl_De_offers_told : Array (Option Value)}
    {oc_De_money kV_De_money dc_De_money pm_De_money cd_De_money ct_De_money : Value} {od_De_money an_De_money : Option Addr} {sl_De_money : Array (Option Value)}
    {oc_De_counts kV_De_counts dc_De_counts pm_De_counts cd_De_counts ct_De_counts : Value} {od_De_counts an_De_counts : Option Addr} {sl_De_counts : Array (Option Value)}
    (g_De : PySem.W.nsIn K mainGlobals "Desk" = some (some (.ref C)))
    (na_De_state : PySem.W.findIn K (.ref C) "state" = some none)
    (i_De : PySem.W.findIn K (.ref C) "__init__" = some (some (.ref f_De_init)))
    (pg_De : PySem.W.plainGet K C Str.empty = true)
    (hd_De : PySem.W.hasDictIn K C = true)
    (po_De : PySem.W.plainOver K C = true)
    (sa_De : PySem.W.findIn K (.ref C) "__setattr__" = some (some (.builtin "object.__setattr__")))
    (mk_De : PySem.W.makesIn K C = true)
    (fi_De : PySem.W.isFn K (.ref f_De_init) = true)
    (kc_De : PySem.W.keepIn K (.ref C) = true)
    (l_De_init : K.lookup f_De_init = some ⟨oc_De_init, od_De_init, .func (PySem.W.fnOf "__init__" "Desk.__init__" (defArgs s_De_init) (defBody s_De_init) (defScope s_De_init) .none kV_De_init dc_De_init pm_De_init an_De_init cd_De_init ct_De_init), sl_De_init⟩)
    (d_De_init : PySem.W.codeIn K cd_De_init "Desk.__init__" = true)
    (k_De_init : PySem.W.keepIn K (.ref f_De_init) = true)
    (a_De_look_up : PySem.W.findIn K (.ref C) "look_up" = some (some (.ref f_De_look_up)))
    (n_De_look_up : PySem.W.isFn K (.ref f_De_look_up) = true)
    (l_De_look_up : K.lookup f_De_look_up = some ⟨oc_De_look_up, od_De_look_up, .func (PySem.W.fnOf "look_up" "Desk.look_up" (defArgs s_De_look_up) (defBody s_De_look_up) (defScope s_De_look_up) .none kV_De_look_up dc_De_look_up pm_De_look_up an_De_look_up cd_De_look_up ct_De_look_up), sl_De_look_up⟩)
    (d_De_look_up : PySem.W.codeIn K cd_De_look_up "Desk.look_up" = true)
    (k_De_look_up : PySem.W.keepIn K (.ref f_De_look_up) = true)
    (a_De_offer : PySem.W.findIn K (.ref C) "offer" = some (some (.ref f_De_offer)))
    (n_De_offer : PySem.W.isFn K (.ref f_De_offer) = true)
    (l_De_offer : K.lookup f_De_offer = some ⟨oc_De_offer, od_De_offer, .func (PySem.W.fnOf "offer" "Desk.offer" (defArgs s_De_offer) (defBody s_De_offer) (defScope s_De_offer) .none kV_De_offer dc_De_offer pm_De_offer an_De_offer cd_De_offer ct_De_offer), sl_De_offer⟩)
    (d_De_offer : PySem.W.codeIn K cd_De_offer "Desk.offer" = true)
    (k_De_offer : PySem.W.keepIn K (.ref f_De_offer) = true)
    (a_De_look_closed : PySem.W.findIn K (.ref C) "look_closed" = some (some (.ref f_De_look_closed)))
    (n_De_look_closed : PySem.W.isFn K (.ref f_De_look_closed) = true)
    (l_De_look_closed : K.lookup f_De_look_closed = some ⟨oc_De_look_closed, od_De_look_closed, .func (PySem.W.fnOf "look_closed" "Desk.look_closed" (defArgs s_De_look_closed) (defBody s_De_look_closed) (defScope s_De_look_closed) .none kV_De_look_closed dc_De_look_closed pm_De_look_closed an_De_look_closed cd_De_look_closed ct_De_look_closed), sl_De_look_closed⟩)
    (d_De_look_closed : PySem.W.codeIn K cd_De_look_closed "Desk.look_closed" = true)
    (k_De_look_closed : PySem.W.keepIn K (.ref f_De_look_closed) = true)
    (a_De_look_entries : PySem.W.findIn K (.ref C) "look_entries" = some (some (.ref f_De_look_entries)))
    (n_De_look_entries : PySem.W.isFn K (.ref f_De_look_entries) = true)
    (l_De_look_entries : K.lookup f_De_look_entries = some ⟨oc_De_look_entries, od_De_look_entries, .func (PySem.W.fnOf "look_entries" "Desk.look_entries" (defArgs s_De_look_entries) (defBody s_De_look_entries) (defScope s_De_look_entries) .none kV_De_look_entries dc_De_look_entries pm_De_look_entries an_De_look_entries cd_De_look_entries ct_De_look_entries), sl_De_look_entries⟩)
    (d_De_look_entries : PySem.W.codeIn K cd_De_look_entries "Desk.look_entries" = true)
    (k_De_look_entries : PySem.W.keepIn K (.ref f_De_look_entries) = true)
    (a_De_clear : PySem.W.findIn K (.ref C) "clear" = some (some (.ref f_De_clear)))
    (n_De_clear : PySem.W.isFn K (.ref f_De_clear) = true)
    (l_De_clear : K.lookup f_De_clear = some ⟨oc_De_clear, od_De_clear, .func (PySem.W.fnOf "clear" "Desk.clear" (defArgs s_De_clear) (defBody s_De_clear) (defScope s_De_clear) .none kV_De_clear dc_De_clear pm_De_clear an_De_clear cd_De_clear ct_De_clear), sl_De_clear⟩)
    (d_De_clear : PySem.W.codeIn K cd_De_clear "Desk.clear" = true)
    (k_De_clear : PySem.W.keepIn K (.ref f_De_clear) = true)
    (a_De_put_rules : PySem.W.findIn K (.ref C) "put_rules" = some (some (.ref f_De_put_rules)))
    (n_De_put_rules : PySem.W.isFn K (.ref f_De_put_rules) = true)
    (l_De_put_rules : K.lookup f_De_put_rules = some ⟨oc_De_put_rules, od_De_put_rules, .func (PySem.W.fnOf "put_rules" "Desk.put_rules" (defArgs s_De_put_rules) (defBody s_De_put_rules) (defScope s_De_put_rules) .none kV_De_put_rules dc_De_put_rules pm_De_put_rules an_De_put_rules cd_De_put_rules ct_De_put_rules), sl_De_put_rules⟩)
    (d_De_put_rules : PySem.W.codeIn K cd_De_put_rules "Desk.put_rules" = true)
    (k_De_put_rules : PySem.W.keepIn K (.ref f_De_put_rules) = true)
    (a_De_enter : PySem.W.findIn K (.ref C) "enter" = some (some (.ref f_De_enter)))
    (n_De_enter : PySem.W.isFn K (.ref f_De_enter) = true)
    (l_De_enter : K.lookup f_De_enter = some ⟨oc_De_enter, od_De_enter, .func (PySem.W.fnOf "enter" "Desk.enter" (defArgs s_De_enter) (defBody s_De_enter) (defScope s_De_enter) .none kV_De_enter dc_De_enter pm_De_enter an_De_enter cd_De_enter ct_De_enter), sl_De_enter⟩)
    (d_De_enter : PySem.W.codeIn K cd_De_enter "Desk.enter" = true)
    (k_De_enter : PySem.W.keepIn K (.ref f_De_enter) = true)
    (a_De_want : PySem.W.findIn K (.ref C) "want" = some (some (.ref f_De_want)))
    (n_De_want : PySem.W.isFn K (.ref f_De_want) = true)
    (l_De_want : K.lookup f_De_want = some ⟨oc_De_want, od_De_want, .func (PySem.W.fnOf "want" "Desk.want" (defArgs s_De_want) (defBody s_De_want) (defScope s_De_want) .none kV_De_want dc_De_want pm_De_want an_De_want cd_De_want ct_De_want), sl_De_want⟩)
    (d_De_want : PySem.W.codeIn K cd_De_want "Desk.want" = true)
    (k_De_want : PySem.W.keepIn K (.ref f_De_want) = true)
    (a_De_bring : PySem.W.findIn K (.ref C) "bring" = some (some (.ref f_De_bring)))
    (n_De_bring : PySem.W.isFn K (.ref f_De_bring) = true)
    (l_De_bring : K.lookup f_De_bring = some ⟨oc_De_bring, od_De_bring, .func (PySem.W.fnOf "bring" "Desk.bring" (defArgs s_De_bring) (defBody s_De_bring) (defScope s_De_bring) .none kV_De_bring dc_De_bring pm_De_bring an_De_bring cd_De_bring ct_De_bring), sl_De_bring⟩)
    (d_De_bring : PySem.W.codeIn K cd_De_bring "Desk.bring" = true)
    (k_De_bring : PySem.W.keepIn K (.ref f_De_bring) = true)
    (a_De_accept : PySem.W.findIn K (.ref C) "accept" = some (some (.ref f_De_accept)))
    (n_De_accept : PySem.W.isFn K (.ref f_De_accept) = true)
    (l_De_accept : K.lookup f_De_accept = some ⟨oc_De_accept, od_De_accept, .func (PySem.W.fnOf "accept" "Desk.accept" (defArgs s_De_accept) (defBody s_De_accept) (defScope s_De_accept) .none kV_De_accept dc_De_accept pm_De_accept an_De_accept cd_De_accept ct_De_accept), sl_De_accept⟩)
    (d_De_accept : PySem.W.codeIn K cd_De_accept "Desk.accept" = true)
    (k_De_accept : PySem.W.keepIn K (.ref f_De_accept) = true)
    (a_De_decline : PySem.W.findIn K (.ref C) "decline" = some (some (.ref f_De_decline)))
    (n_De_decline : PySem.W.isFn K (.ref f_De_decline) = true)
    (l_De_decline : K.lookup f_De_decline = some ⟨oc_De_decline, od_De_decline, .func (PySem.W.fnOf "decline" "Desk.decline" (defArgs s_De_decline) (defBody s_De_decline) (defScope s_De_decline) .none kV_De_decline dc_De_decline pm_De_decline an_De_decline cd_De_decline ct_De_decline), sl_De_decline⟩)
    (d_De_decline : PySem.W.codeIn K cd_De_decline "Desk.decline" = true)
    (k_De_decline : PySem.W.keepIn K (.ref f_De_decline) = true)
    (a_De_drop : PySem.W.findIn K (.ref C) "drop" = some (some (.ref f_De_drop)))
    (n_De_drop : PySem.W.isFn K (.ref f_De_drop) = true)
    (l_De_drop : K.lookup f_De_drop = some ⟨oc_De_drop, od_De_drop, .func (PySem.W.fnOf "drop" "Desk.drop" (defArgs s_De_drop) (defBody s_De_drop) (defScope s_De_drop) .none kV_De_drop dc_De_drop pm_De_drop an_De_drop cd_De_drop ct_De_drop), sl_De_drop⟩)
    (d_De_drop : PySem.W.codeIn K cd_De_drop "Desk.drop" = true)
    (k_De_drop : PySem.W.keepIn K (.ref f_De_drop) = true)
    (a_De_transfer : PySem.W.findIn K (.ref C) "transfer" = some (some (.ref f_De_transfer)))
    (n_De_transfer : PySem.W.isFn K (.ref f_De_transfer) = true)
    (l_De_transfer : K.lookup f_De_transfer = some ⟨oc_De_transfer, od_De_transfer, .func (PySem.W.fnOf "transfer" "Desk.transfer" (defArgs s_De_transfer) (defBody s_De_transfer) (defScope s_De_transfer) .none kV_De_transfer dc_De_transfer pm_De_transfer an_De_transfer cd_De_transfer ct_De_transfer), sl_De_transfer⟩)
    (d_De_transfer : PySem.W.codeIn K cd_De_transfer "Desk.transfer" = true)
    (k_De_transfer : PySem.W.keepIn K (.ref f_De_transfer) = true)
    (a_De_pay : PySem.W.findIn K (.ref C) "pay" = some (some (.ref f_De_pay)))
    (n_De_pay : PySem.W.isFn K (.ref f_De_pay) = true)
    (l_De_pay : K.lookup f_De_pay = some ⟨oc_De_pay, od_De_pay, .func (PySem.W.fnOf "pay" "Desk.pay" (defArgs s_De_pay) (defBody s_De_pay) (defScope s_De_pay) .none kV_De_pay dc_De_pay pm_De_pay an_De_pay cd_De_pay ct_De_pay), sl_De_pay⟩)
    (d_De_pay : PySem.W.codeIn K cd_De_pay "Desk.pay" = true)
    (k_De_pay : PySem.W.keepIn K (.ref f_De_pay) = true)
    (a_De_payout : PySem.W.findIn K (.ref C) "payout" = some (some (.ref f_De_payout)))
    (n_De_payout : PySem.W.isFn K (.ref f_De_payout) = true)
    (l_De_payout : K.lookup f_De_payout = some ⟨oc_De_payout, od_De_payout, .func (PySem.W.fnOf "payout" "Desk.payout" (defArgs s_De_payout) (defBody s_De_payout) (defScope s_De_payout) .none kV_De_payout dc_De_payout pm_De_payout an_De_payout cd_De_payout ct_De_payout), sl_De_payout⟩)
    (d_De_payout : PySem.W.codeIn K cd_De_payout "Desk.payout" = true)
    (k_De_payout : PySem.W.keepIn K (.ref f_De_payout) = true)
    (a_De_night : PySem.W.findIn K (.ref C) "night" = some (some (.ref f_De_night)))
    (n_De_night : PySem.W.isFn K (.ref f_De_night) = true)
    (l_De_night : K.lookup f_De_night = some ⟨oc_De_night, od_De_night, .func (PySem.W.fnOf "night" "Desk.night" (defArgs s_De_night) (defBody s_De_night) (defScope s_De_night) .none kV_De_night dc_De_night pm_De_night an_De_night cd_De_night ct_De_night), sl_De_night⟩)
    (d_De_night : PySem.W.codeIn K cd_De_night "Desk.night" = true)
    (k_De_night : PySem.W.keepIn K (.ref f_De_night) = true)
    (a_De_close : PySem.W.findIn K (.ref C) "close" = some (some (.ref f_De_close)))
    (n_De_close : PySem.W.isFn K (.ref f_De_close) = true)
    (l_De_close : K.lookup f_De_close = some ⟨oc_De_close, od_De_close, .func (PySem.W.fnOf "close" "Desk.close" (defArgs s_De_close) (defBody s_De_close) (defScope s_De_close) .none kV_De_close dc_De_close pm_De_close an_De_close cd_De_close ct_De_close), sl_De_close⟩)
    (d_De_close : PySem.W.codeIn K cd_De_close "Desk.close" = true)
    (k_De_close : PySem.W.keepIn K (.ref f_De_close) = true)
    (a_De_school_told : PySem.W.findIn K (.ref C) "school_told" = some (some (.ref f_De_school_told)))
    (n_De_school_told : PySem.W.isFn K (.ref f_De_school_told) = true)
    (l_De_school_told : K.lookup f_De_school_told = some ⟨oc_De_school_told, od_De_school_told, .func (PySem.W.fnOf "school_told" "Desk.school_told" (defArgs s_De_school_told) (defBody s_De_school_told) (defScope s_De_school_told) .none kV_De_school_told dc_De_school_told pm_De_school_told an_De_school_told cd_De_school_told ct_De_school_told), sl_De_school_told⟩)
    (d_De_school_told : PySem.W.codeIn K cd_De_school_told "Desk.school_told" = true)
    (k_De_school_told : PySem.W.keepIn K (.ref f_De_school_told) = true)
    (a_De_offers_told : PySem.W.findIn K (.ref C) "offers_told" = some (some (.ref f_De_offers_told)))
    (n_De_offers_told : PySem.W.isFn K (.ref f_De_offers_told) = true)
    (l_De_offers_told : K.lookup f_De_offers_told = some ⟨oc_De_offers_told, od_De_offers_told, .func (PySem.W.fnOf "offers_told" "Desk.offers_told" (defArgs s_De_offers_told) (defBody s_De_offers_told) (defScope s_De_offers_told) .none kV_De_offers_told dc_De_offers_told pm_De_offers_told an_De_offers_told cd_De_offers_told ct_De_offers_told), sl_De_offers_told⟩)
    (d_De_offers_told : PySem.W.codeIn K cd_De_offers_told "Desk.offers_told" = true)
    (k_De_offers_told : PySem.W.keepIn K (.ref f_De_offers_told) = true)
    (a_De_money : PySem.W.findIn K (.ref C) "money" = some (some (.ref f_De_money)))
    (n_De_money : PySem.W.isFn K (.ref f_De_money) = true)
    (l_De_money : K.lookup f_De_money = some ⟨oc_De_money, od_De_money, .func (PySem.W.fnOf "money" "Desk.money" (defArgs s_De_money) (defBody s_De_money) (defScope s_De_money) .none kV_De_money dc_De_money pm_De_money an_De_money cd_De_money ct_De_money), sl_De_money⟩)
    (d_De_money : PySem.W.codeIn K cd_De_money "Desk.money" = true)
    (k_De_money : PySem.W.keepIn K (.ref f_De_money) = true)
    (a_De_counts : PySem.W.findIn K (.ref C) "counts" = some (some (.ref f_De_counts)))
    (n_De_counts : PySem.W.isFn K (.ref f_De_counts) = true)
    (l_De_counts : K.lookup f_De_counts = some ⟨oc_De_counts, od_De_counts, .func (PySem.W.fnOf "counts" "Desk.counts" (defArgs s_De_counts) (defBody s_De_counts) (defScope s_De_counts) .none kV_De_counts dc_De_counts pm_De_counts an_De_counts cd_De_counts ct_De_counts), sl_De_counts⟩)
    (d_De_counts : PySem.W.codeIn K cd_De_counts "Desk.counts" = true)
    (k_De_counts : PySem.W.keepIn K (.ref f_De_counts) = true) : PG_De K mg :=
  ⟨C, f_De_init, f_De_look_up, f_De_offer, f_De_look_closed, f_De_look_entries, f_De_clear, f_De_put_rules, f_De_enter, f_De_want, f_De_bring, f_De_accept, f_De_decline, f_De_drop, f_De_transfer, f_De_pay, f_De_payout, f_De_night, f_De_close, f_De_school_told, f_De_offers_told, f_De_money, f_De_counts, PySem.W.mg_of X G g_De, na_De_state, ⟨pg_De, hd_De, po_De, sa_De⟩, ⟨mk_De, i_De, fi_De, kc_De⟩, ⟨_, fun_mk (st := s_De_init) l_De_init d_De_init k_De_init⟩, ⟨_, fun_mk (st := s_De_look_up) l_De_look_up d_De_look_up k_De_look_up⟩, ⟨a_De_look_up, n_De_look_up, k_De_look_up⟩, ⟨_, fun_mk (st := s_De_offer) l_De_offer d_De_offer k_De_offer⟩, ⟨a_De_offer, n_De_offer, k_De_offer⟩, ⟨_, fun_mk (st := s_De_look_closed) l_De_look_closed d_De_look_closed k_De_look_closed⟩, ⟨a_De_look_closed, n_De_look_closed, k_De_look_closed⟩, ⟨_, fun_mk (st := s_De_look_entries) l_De_look_entries d_De_look_entries k_De_look_entries⟩, ⟨a_De_look_entries, n_De_look_entries, k_De_look_entries⟩, ⟨_, fun_mk (st := s_De_clear) l_De_clear d_De_clear k_De_clear⟩, ⟨a_De_clear, n_De_clear, k_De_clear⟩, ⟨_, fun_mk (st := s_De_put_rules) l_De_put_rules d_De_put_rules k_De_put_rules⟩, ⟨a_De_put_rules, n_De_put_rules, k_De_put_rules⟩, ⟨_, fun_mk (st := s_De_enter) l_De_enter d_De_enter k_De_enter⟩, ⟨a_De_enter, n_De_enter, k_De_enter⟩, ⟨_, fun_mk (st := s_De_want) l_De_want d_De_want k_De_want⟩, ⟨a_De_want, n_De_want, k_De_want⟩, ⟨_, fun_mk (st := s_De_bring) l_De_bring d_De_bring k_De_bring⟩, ⟨a_De_bring, n_De_bring, k_De_bring⟩, ⟨_, fun_mk (st := s_De_accept) l_De_accept d_De_accept k_De_accept⟩, ⟨a_De_accept, n_De_accept, k_De_accept⟩, ⟨_, fun_mk (st := s_De_decline) l_De_decline d_De_decline k_De_decline⟩, ⟨a_De_decline, n_De_decline, k_De_decline⟩, ⟨_, fun_mk (st := s_De_drop) l_De_drop d_De_drop k_De_drop⟩, ⟨a_De_drop, n_De_drop, k_De_drop⟩, ⟨_, fun_mk (st := s_De_transfer) l_De_transfer d_De_transfer k_De_transfer⟩, ⟨a_De_transfer, n_De_transfer, k_De_transfer⟩, ⟨_, fun_mk (st := s_De_pay) l_De_pay d_De_pay k_De_pay⟩, ⟨a_De_pay, n_De_pay, k_De_pay⟩, ⟨_, fun_mk (st := s_De_payout) l_De_payout d_De_payout k_De_payout⟩, ⟨a_De_payout, n_De_payout, k_De_payout⟩, ⟨_, fun_mk (st := s_De_night) l_De_night d_De_night k_De_night⟩, ⟨a_De_night, n_De_night, k_De_night⟩, ⟨_, fun_mk (st := s_De_close) l_De_close d_De_close k_De_close⟩, ⟨a_De_close, n_De_close, k_De_close⟩, ⟨_, fun_mk (st := s_De_school_told) l_De_school_told d_De_school_told k_De_school_told⟩, ⟨a_De_school_told, n_De_school_told, k_De_school_told⟩, ⟨_, fun_mk (st := s_De_offers_told) l_De_offers_told d_De_offers_told k_De_offers_told⟩, ⟨a_De_offers_told, n_De_offers_told, k_De_offers_told⟩, ⟨_, fun_mk (st := s_De_money) l_De_money d_De_money k_De_money⟩, ⟨a_De_money, n_De_money, k_De_money⟩, ⟨_, fun_mk (st := s_De_counts) l_De_counts d_De_counts k_De_counts⟩, ⟨a_De_counts, n_De_counts, k_De_counts⟩⟩
def PG_Cr (K : PySem.W.Frag) (mg : Str → Option Value) : Prop := ∃ (C f_Cr_init f_Cr_is_done f_Cr_next_some : Addr), (mg "CallReader" = some (.ref C)) ∧ (NoAttr K C "calls") ∧ (NoAttr K C "at") ∧ (Cls K C) ∧ (Mk K C f_Cr_init) ∧ (Fn K "__init__" "CallReader.__init__" s_Cr_init f_Cr_init) ∧ (Fn K "is_done" "CallReader.is_done" s_Cr_is_done f_Cr_is_done) ∧ (Meth K C "is_done" f_Cr_is_done) ∧ (Fn K "next_some" "CallReader.next_some" s_Cr_next_some f_Cr_next_some) ∧ (Meth K C "next_some" f_Cr_next_some)
theorem grp_Cr {K : PySem.W.Frag} {h : Heap} {mg : Str → Option Value} (X : K.In h) (G : h.Ns mainGlobals mg)
    {C f_Cr_init f_Cr_is_done f_Cr_next_some : Addr}
    {oc_Cr_init kV_Cr_init dc_Cr_init pm_Cr_init cd_Cr_init ct_Cr_init : Value} {od_Cr_init an_Cr_init : Option Addr} {sl_Cr_init : Array (Option Value)}
    {oc_Cr_is_done kV_Cr_is_done dc_Cr_is_done pm_Cr_is_done cd_Cr_is_done ct_Cr_is_done : Value} {od_Cr_is_done an_Cr_is_done : Option Addr} {sl_Cr_is_done : Array (Option Value)}
    {oc_Cr_next_some kV_Cr_next_some dc_Cr_next_some pm_Cr_next_some cd_Cr_next_some ct_Cr_next_some : Value} {od_Cr_next_some an_Cr_next_some : Option Addr} {sl_Cr_next_some : Array (Option Value)}
    (g_Cr : PySem.W.nsIn K mainGlobals "CallReader" = some (some (.ref C)))
    (na_Cr_calls : PySem.W.findIn K (.ref C) "calls" = some none)
    (na_Cr_at : PySem.W.findIn K (.ref C) "at" = some none)
    (i_Cr : PySem.W.findIn K (.ref C) "__init__" = some (some (.ref f_Cr_init)))
    (pg_Cr : PySem.W.plainGet K C Str.empty = true)
    (hd_Cr : PySem.W.hasDictIn K C = true)
    (po_Cr : PySem.W.plainOver K C = true)
    (sa_Cr : PySem.W.findIn K (.ref C) "__setattr__" = some (some (.builtin "object.__setattr__")))
    (mk_Cr : PySem.W.makesIn K C = true)
    (fi_Cr : PySem.W.isFn K (.ref f_Cr_init) = true)
    (kc_Cr : PySem.W.keepIn K (.ref C) = true)
    (l_Cr_init : K.lookup f_Cr_init = some ⟨oc_Cr_init, od_Cr_init, .func (PySem.W.fnOf "__init__" "CallReader.__init__" (defArgs s_Cr_init) (defBody s_Cr_init) (defScope s_Cr_init) .none kV_Cr_init dc_Cr_init pm_Cr_init an_Cr_init cd_Cr_init ct_Cr_init), sl_Cr_init⟩)
    (d_Cr_init : PySem.W.codeIn K cd_Cr_init "CallReader.__init__" = true)
    (k_Cr_init : PySem.W.keepIn K (.ref f_Cr_init) = true)
    (a_Cr_is_done : PySem.W.findIn K (.ref C) "is_done" = some (some (.ref f_Cr_is_done)))
    (n_Cr_is_done : PySem.W.isFn K (.ref f_Cr_is_done) = true)
    (l_Cr_is_done : K.lookup f_Cr_is_done = some ⟨oc_Cr_is_done, od_Cr_is_done, .func (PySem.W.fnOf "is_done" "CallReader.is_done" (defArgs s_Cr_is_done) (defBody s_Cr_is_done) (defScope s_Cr_is_done) .none kV_Cr_is_done dc_Cr_is_done pm_Cr_is_done an_Cr_is_done cd_Cr_is_done ct_Cr_is_done), sl_Cr_is_done⟩)
    (d_Cr_is_done : PySem.W.codeIn K cd_Cr_is_done "CallReader.is_done" = true)
    (k_Cr_is_done : PySem.W.keepIn K (.ref f_Cr_is_done) = true)
    (a_Cr_next_some : PySem.W.findIn K (.ref C) "next_some" = some (some (.ref f_Cr_next_some)))
    (n_Cr_next_some : PySem.W.isFn K (.ref f_Cr_next_some) = true)
    (l_Cr_next_some : K.lookup f_Cr_next_some = some ⟨oc_Cr_next_some, od_Cr_next_some, .func (PySem.W.fnOf "next_some" "CallReader.next_some" (defArgs s_Cr_next_some) (defBody s_Cr_next_some) (defScope s_Cr_next_some) .none kV_Cr_next_some dc_Cr_next_some pm_Cr_next_some an_Cr_next_some cd_Cr_next_some ct_Cr_next_some), sl_Cr_next_some⟩)
    (d_Cr_next_some : PySem.W.codeIn K cd_Cr_next_some "CallReader.next_some" = true)
    (k_Cr_next_some : PySem.W.keepIn K (.ref f_Cr_next_some) = true) : PG_Cr K mg :=
  ⟨C, f_Cr_init, f_Cr_is_done, f_Cr_next_some, PySem.W.mg_of X G g_Cr, na_Cr_calls, na_Cr_at, ⟨pg_Cr, hd_Cr, po_Cr, sa_Cr⟩, ⟨mk_Cr, i_Cr, fi_Cr, kc_Cr⟩, ⟨_, fun_mk (st := s_Cr_init) l_Cr_init d_Cr_init k_Cr_init⟩, ⟨_, fun_mk (st := s_Cr_is_done) l_Cr_is_done d_Cr_is_done k_Cr_is_done⟩, ⟨a_Cr_is_done, n_Cr_is_done, k_Cr_is_done⟩, ⟨_, fun_mk (st := s_Cr_next_some) l_Cr_next_some d_Cr_next_some k_Cr_next_some⟩, ⟨a_Cr_next_some, n_Cr_next_some, k_Cr_next_some⟩⟩
def PG_f_words_of (K : PySem.W.Frag) (mg : Str → Option Value) : Prop := ∃ (f_ : Addr), (Fn K "words_of" "words_of" s_f_words_of f_) ∧ (mg "words_of" = some (.ref f_)) ∧ (PySem.W.keepIn K (.ref f_) = true)
theorem grp_f_words_of {K : PySem.W.Frag} {h : Heap} {mg : Str → Option Value} (X : K.In h) (G : h.Ns mainGlobals mg) {f_ : Addr} {oc_f_words_of kV_f_words_of dc_f_words_of pm_f_words_of cd_f_words_of ct_f_words_of : Value} {od_f_words_of an_f_words_of : Option Addr} {sl_f_words_of : Array (Option Value)}
    (a_f_words_of : PySem.W.nsIn K mainGlobals "words_of" = some (some (.ref f_)))
    (l_f_words_of : K.lookup f_ = some ⟨oc_f_words_of, od_f_words_of, .func (PySem.W.fnOf "words_of" "words_of" (defArgs s_f_words_of) (defBody s_f_words_of) (defScope s_f_words_of) .none kV_f_words_of dc_f_words_of pm_f_words_of an_f_words_of cd_f_words_of ct_f_words_of), sl_f_words_of⟩)
    (d_f_words_of : PySem.W.codeIn K cd_f_words_of "words_of" = true)
    (k_f_words_of : PySem.W.keepIn K (.ref f_) = true) : PG_f_words_of K mg :=
  ⟨f_, ⟨_, fun_mk (st := s_f_words_of) l_f_words_of d_f_words_of k_f_words_of⟩, PySem.W.mg_of X G a_f_words_of, k_f_words_of⟩
def PG_f_rows_of (K : PySem.W.Frag) (mg : Str → Option Value) : Prop := ∃ (f_ : Addr), (Fn K "rows_of" "rows_of" s_f_rows_of f_) ∧ (mg "rows_of" = some (.ref f_)) ∧ (PySem.W.keepIn K (.ref f_) = true)
theorem grp_f_rows_of {K : PySem.W.Frag} {h : Heap} {mg : Str → Option Value} (X : K.In h) (G : h.Ns mainGlobals mg) {f_ : Addr} {oc_f_rows_of kV_f_rows_of dc_f_rows_of pm_f_rows_of cd_f_rows_of ct_f_rows_of : Value} {od_f_rows_of an_f_rows_of : Option Addr} {sl_f_rows_of : Array (Option Value)}
    (a_f_rows_of : PySem.W.nsIn K mainGlobals "rows_of" = some (some (.ref f_)))
    (l_f_rows_of : K.lookup f_ = some ⟨oc_f_rows_of, od_f_rows_of, .func (PySem.W.fnOf "rows_of" "rows_of" (defArgs s_f_rows_of) (defBody s_f_rows_of) (defScope s_f_rows_of) .none kV_f_rows_of dc_f_rows_of pm_f_rows_of an_f_rows_of cd_f_rows_of ct_f_rows_of), sl_f_rows_of⟩)
    (d_f_rows_of : PySem.W.codeIn K cd_f_rows_of "rows_of" = true)
    (k_f_rows_of : PySem.W.keepIn K (.ref f_) = true) : PG_f_rows_of K mg :=
  ⟨f_, ⟨_, fun_mk (st := s_f_rows_of) l_f_rows_of d_f_rows_of k_f_rows_of⟩, PySem.W.mg_of X G a_f_rows_of, k_f_rows_of⟩
def PG_f_number_of (K : PySem.W.Frag) (mg : Str → Option Value) : Prop := ∃ (f_ : Addr), (Fn K "number_of" "number_of" s_f_number_of f_) ∧ (mg "number_of" = some (.ref f_)) ∧ (PySem.W.keepIn K (.ref f_) = true)
theorem grp_f_number_of {K : PySem.W.Frag} {h : Heap} {mg : Str → Option Value} (X : K.In h) (G : h.Ns mainGlobals mg) {f_ : Addr} {oc_f_number_of kV_f_number_of dc_f_number_of pm_f_number_of cd_f_number_of ct_f_number_of : Value} {od_f_number_of an_f_number_of : Option Addr} {sl_f_number_of : Array (Option Value)}
    (a_f_number_of : PySem.W.nsIn K mainGlobals "number_of" = some (some (.ref f_)))
    (l_f_number_of : K.lookup f_ = some ⟨oc_f_number_of, od_f_number_of, .func (PySem.W.fnOf "number_of" "number_of" (defArgs s_f_number_of) (defBody s_f_number_of) (defScope s_f_number_of) .none kV_f_number_of dc_f_number_of pm_f_number_of an_f_number_of cd_f_number_of ct_f_number_of), sl_f_number_of⟩)
    (d_f_number_of : PySem.W.codeIn K cd_f_number_of "number_of" = true)
    (k_f_number_of : PySem.W.keepIn K (.ref f_) = true) : PG_f_number_of K mg :=
  ⟨f_, ⟨_, fun_mk (st := s_f_number_of) l_f_number_of d_f_number_of k_f_number_of⟩, PySem.W.mg_of X G a_f_number_of, k_f_number_of⟩
def PG_f_is_word (K : PySem.W.Frag) (mg : Str → Option Value) : Prop := ∃ (f_ : Addr), (Fn K "is_word" "is_word" s_f_is_word f_) ∧ (mg "is_word" = some (.ref f_)) ∧ (PySem.W.keepIn K (.ref f_) = true)
theorem grp_f_is_word {K : PySem.W.Frag} {h : Heap} {mg : Str → Option Value} (X : K.In h) (G : h.Ns mainGlobals mg) {f_ : Addr} {oc_f_is_word kV_f_is_word dc_f_is_word pm_f_is_word cd_f_is_word ct_f_is_word : Value} {od_f_is_word an_f_is_word : Option Addr} {sl_f_is_word : Array (Option Value)}
    (a_f_is_word : PySem.W.nsIn K mainGlobals "is_word" = some (some (.ref f_)))
    (l_f_is_word : K.lookup f_ = some ⟨oc_f_is_word, od_f_is_word, .func (PySem.W.fnOf "is_word" "is_word" (defArgs s_f_is_word) (defBody s_f_is_word) (defScope s_f_is_word) .none kV_f_is_word dc_f_is_word pm_f_is_word an_f_is_word cd_f_is_word ct_f_is_word), sl_f_is_word⟩)
    (d_f_is_word : PySem.W.codeIn K cd_f_is_word "is_word" = true)
    (k_f_is_word : PySem.W.keepIn K (.ref f_) = true) : PG_f_is_word K mg :=
  ⟨f_, ⟨_, fun_mk (st := s_f_is_word) l_f_is_word d_f_is_word k_f_is_word⟩, PySem.W.mg_of X G a_f_is_word, k_f_is_word⟩
def PG_f_bounds_of (K : PySem.W.Frag) (mg : Str → Option Value) : Prop := ∃ (f_ : Addr), (Fn K "bounds_of" "bounds_of" s_f_bounds_of f_) ∧ (mg "bounds_of" = some (.ref f_)) ∧ (PySem.W.keepIn K (.ref f_) = true)
theorem grp_f_bounds_of {K : PySem.W.Frag} {h : Heap} {mg : Str → Option Value} (X : K.In h) (G : h.Ns mainGlobals mg) {f_ : Addr} {oc_f_bounds_of kV_f_bounds_of dc_f_bounds_of pm_f_bounds_of cd_f_bounds_of ct_f_bounds_of : Value} {od_f_bounds_of an_f_bounds_of : Option Addr} {sl_f_bounds_of : Array (Option Value)}
    (a_f_bounds_of : PySem.W.nsIn K mainGlobals "bounds_of" = some (some (.ref f_)))
    (l_f_bounds_of : K.lookup f_ = some ⟨oc_f_bounds_of, od_f_bounds_of, .func (PySem.W.fnOf "bounds_of" "bounds_of" (defArgs s_f_bounds_of) (defBody s_f_bounds_of) (defScope s_f_bounds_of) .none kV_f_bounds_of dc_f_bounds_of pm_f_bounds_of an_f_bounds_of cd_f_bounds_of ct_f_bounds_of), sl_f_bounds_of⟩)
    (d_f_bounds_of : PySem.W.codeIn K cd_f_bounds_of "bounds_of" = true)
    (k_f_bounds_of : PySem.W.keepIn K (.ref f_) = true) : PG_f_bounds_of K mg :=
  ⟨f_, ⟨_, fun_mk (st := s_f_bounds_of) l_f_bounds_of d_f_bounds_of k_f_bounds_of⟩, PySem.W.mg_of X G a_f_bounds_of, k_f_bounds_of⟩
def PG_f_are_pairs (K : PySem.W.Frag) (mg : Str → Option Value) : Prop := ∃ (f_ : Addr), (Fn K "are_pairs" "are_pairs" s_f_are_pairs f_) ∧ (mg "are_pairs" = some (.ref f_)) ∧ (PySem.W.keepIn K (.ref f_) = true)
theorem grp_f_are_pairs {K : PySem.W.Frag} {h : Heap} {mg : Str → Option Value} (X : K.In h) (G : h.Ns mainGlobals mg) {f_ : Addr} {oc_f_are_pairs kV_f_are_pairs dc_f_are_pairs pm_f_are_pairs cd_f_are_pairs ct_f_are_pairs : Value} {od_f_are_pairs an_f_are_pairs : Option Addr} {sl_f_are_pairs : Array (Option Value)}
    (a_f_are_pairs : PySem.W.nsIn K mainGlobals "are_pairs" = some (some (.ref f_)))
    (l_f_are_pairs : K.lookup f_ = some ⟨oc_f_are_pairs, od_f_are_pairs, .func (PySem.W.fnOf "are_pairs" "are_pairs" (defArgs s_f_are_pairs) (defBody s_f_are_pairs) (defScope s_f_are_pairs) .none kV_f_are_pairs dc_f_are_pairs pm_f_are_pairs an_f_are_pairs cd_f_are_pairs ct_f_are_pairs), sl_f_are_pairs⟩)
    (d_f_are_pairs : PySem.W.codeIn K cd_f_are_pairs "are_pairs" = true)
    (k_f_are_pairs : PySem.W.keepIn K (.ref f_) = true) : PG_f_are_pairs K mg :=
  ⟨f_, ⟨_, fun_mk (st := s_f_are_pairs) l_f_are_pairs d_f_are_pairs k_f_are_pairs⟩, PySem.W.mg_of X G a_f_are_pairs, k_f_are_pairs⟩
def PG_f_are_right (K : PySem.W.Frag) (mg : Str → Option Value) : Prop := ∃ (f_ : Addr), (Fn K "are_right" "are_right" s_f_are_right f_) ∧ (mg "are_right" = some (.ref f_)) ∧ (PySem.W.keepIn K (.ref f_) = true)
theorem grp_f_are_right {K : PySem.W.Frag} {h : Heap} {mg : Str → Option Value} (X : K.In h) (G : h.Ns mainGlobals mg) {f_ : Addr} {oc_f_are_right kV_f_are_right dc_f_are_right pm_f_are_right cd_f_are_right ct_f_are_right : Value} {od_f_are_right an_f_are_right : Option Addr} {sl_f_are_right : Array (Option Value)}
    (a_f_are_right : PySem.W.nsIn K mainGlobals "are_right" = some (some (.ref f_)))
    (l_f_are_right : K.lookup f_ = some ⟨oc_f_are_right, od_f_are_right, .func (PySem.W.fnOf "are_right" "are_right" (defArgs s_f_are_right) (defBody s_f_are_right) (defScope s_f_are_right) .none kV_f_are_right dc_f_are_right pm_f_are_right an_f_are_right cd_f_are_right ct_f_are_right), sl_f_are_right⟩)
    (d_f_are_right : PySem.W.codeIn K cd_f_are_right "are_right" = true)
    (k_f_are_right : PySem.W.keepIn K (.ref f_) = true) : PG_f_are_right K mg :=
  ⟨f_, ⟨_, fun_mk (st := s_f_are_right) l_f_are_right d_f_are_right k_f_are_right⟩, PySem.W.mg_of X G a_f_are_right, k_f_are_right⟩
def PG_f_put_row (K : PySem.W.Frag) (mg : Str → Option Value) : Prop := ∃ (f_ : Addr), (Fn K "put_row" "put_row" s_f_put_row f_) ∧ (mg "put_row" = some (.ref f_)) ∧ (PySem.W.keepIn K (.ref f_) = true)
theorem grp_f_put_row {K : PySem.W.Frag} {h : Heap} {mg : Str → Option Value} (X : K.In h) (G : h.Ns mainGlobals mg) {f_ : Addr} {oc_f_put_row kV_f_put_row dc_f_put_row pm_f_put_row cd_f_put_row ct_f_put_row : Value} {od_f_put_row an_f_put_row : Option Addr} {sl_f_put_row : Array (Option Value)}
    (a_f_put_row : PySem.W.nsIn K mainGlobals "put_row" = some (some (.ref f_)))
    (l_f_put_row : K.lookup f_ = some ⟨oc_f_put_row, od_f_put_row, .func (PySem.W.fnOf "put_row" "put_row" (defArgs s_f_put_row) (defBody s_f_put_row) (defScope s_f_put_row) .none kV_f_put_row dc_f_put_row pm_f_put_row an_f_put_row cd_f_put_row ct_f_put_row), sl_f_put_row⟩)
    (d_f_put_row : PySem.W.codeIn K cd_f_put_row "put_row" = true)
    (k_f_put_row : PySem.W.keepIn K (.ref f_) = true) : PG_f_put_row K mg :=
  ⟨f_, ⟨_, fun_mk (st := s_f_put_row) l_f_put_row d_f_put_row k_f_put_row⟩, PySem.W.mg_of X G a_f_put_row, k_f_put_row⟩
def PG_f_rules_of (K : PySem.W.Frag) (mg : Str → Option Value) : Prop := ∃ (f_ : Addr), (Fn K "rules_of" "rules_of" s_f_rules_of f_) ∧ (mg "rules_of" = some (.ref f_)) ∧ (PySem.W.keepIn K (.ref f_) = true)
theorem grp_f_rules_of {K : PySem.W.Frag} {h : Heap} {mg : Str → Option Value} (X : K.In h) (G : h.Ns mainGlobals mg) {f_ : Addr} {oc_f_rules_of kV_f_rules_of dc_f_rules_of pm_f_rules_of cd_f_rules_of ct_f_rules_of : Value} {od_f_rules_of an_f_rules_of : Option Addr} {sl_f_rules_of : Array (Option Value)}
    (a_f_rules_of : PySem.W.nsIn K mainGlobals "rules_of" = some (some (.ref f_)))
    (l_f_rules_of : K.lookup f_ = some ⟨oc_f_rules_of, od_f_rules_of, .func (PySem.W.fnOf "rules_of" "rules_of" (defArgs s_f_rules_of) (defBody s_f_rules_of) (defScope s_f_rules_of) .none kV_f_rules_of dc_f_rules_of pm_f_rules_of an_f_rules_of cd_f_rules_of ct_f_rules_of), sl_f_rules_of⟩)
    (d_f_rules_of : PySem.W.codeIn K cd_f_rules_of "rules_of" = true)
    (k_f_rules_of : PySem.W.keepIn K (.ref f_) = true) : PG_f_rules_of K mg :=
  ⟨f_, ⟨_, fun_mk (st := s_f_rules_of) l_f_rules_of d_f_rules_of k_f_rules_of⟩, PySem.W.mg_of X G a_f_rules_of, k_f_rules_of⟩
def PG_f_refuse_if (K : PySem.W.Frag) (mg : Str → Option Value) : Prop := ∃ (f_ : Addr), (Fn K "refuse_if" "refuse_if" s_f_refuse_if f_) ∧ (mg "refuse_if" = some (.ref f_)) ∧ (PySem.W.keepIn K (.ref f_) = true)
theorem grp_f_refuse_if {K : PySem.W.Frag} {h : Heap} {mg : Str → Option Value} (X : K.In h) (G : h.Ns mainGlobals mg) {f_ : Addr} {oc_f_refuse_if kV_f_refuse_if dc_f_refuse_if pm_f_refuse_if cd_f_refuse_if ct_f_refuse_if : Value} {od_f_refuse_if an_f_refuse_if : Option Addr} {sl_f_refuse_if : Array (Option Value)}
    (a_f_refuse_if : PySem.W.nsIn K mainGlobals "refuse_if" = some (some (.ref f_)))
    (l_f_refuse_if : K.lookup f_ = some ⟨oc_f_refuse_if, od_f_refuse_if, .func (PySem.W.fnOf "refuse_if" "refuse_if" (defArgs s_f_refuse_if) (defBody s_f_refuse_if) (defScope s_f_refuse_if) .none kV_f_refuse_if dc_f_refuse_if pm_f_refuse_if an_f_refuse_if cd_f_refuse_if ct_f_refuse_if), sl_f_refuse_if⟩)
    (d_f_refuse_if : PySem.W.codeIn K cd_f_refuse_if "refuse_if" = true)
    (k_f_refuse_if : PySem.W.keepIn K (.ref f_) = true) : PG_f_refuse_if K mg :=
  ⟨f_, ⟨_, fun_mk (st := s_f_refuse_if) l_f_refuse_if d_f_refuse_if k_f_refuse_if⟩, PySem.W.mg_of X G a_f_refuse_if, k_f_refuse_if⟩
def PG_f_with_rows (K : PySem.W.Frag) (mg : Str → Option Value) : Prop := ∃ (f_ : Addr), (Fn K "with_rows" "with_rows" s_f_with_rows f_) ∧ (mg "with_rows" = some (.ref f_)) ∧ (PySem.W.keepIn K (.ref f_) = true)
theorem grp_f_with_rows {K : PySem.W.Frag} {h : Heap} {mg : Str → Option Value} (X : K.In h) (G : h.Ns mainGlobals mg) {f_ : Addr} {oc_f_with_rows kV_f_with_rows dc_f_with_rows pm_f_with_rows cd_f_with_rows ct_f_with_rows : Value} {od_f_with_rows an_f_with_rows : Option Addr} {sl_f_with_rows : Array (Option Value)}
    (a_f_with_rows : PySem.W.nsIn K mainGlobals "with_rows" = some (some (.ref f_)))
    (l_f_with_rows : K.lookup f_ = some ⟨oc_f_with_rows, od_f_with_rows, .func (PySem.W.fnOf "with_rows" "with_rows" (defArgs s_f_with_rows) (defBody s_f_with_rows) (defScope s_f_with_rows) .none kV_f_with_rows dc_f_with_rows pm_f_with_rows an_f_with_rows cd_f_with_rows ct_f_with_rows), sl_f_with_rows⟩)
    (d_f_with_rows : PySem.W.codeIn K cd_f_with_rows "with_rows" = true)
    (k_f_with_rows : PySem.W.keepIn K (.ref f_) = true) : PG_f_with_rows K mg :=
  ⟨f_, ⟨_, fun_mk (st := s_f_with_rows) l_f_with_rows d_f_with_rows k_f_with_rows⟩, PySem.W.mg_of X G a_f_with_rows, k_f_with_rows⟩
def PG_f_first_told (K : PySem.W.Frag) (mg : Str → Option Value) : Prop := ∃ (f_ : Addr), (Fn K "first_told" "first_told" s_f_first_told f_) ∧ (mg "first_told" = some (.ref f_)) ∧ (PySem.W.keepIn K (.ref f_) = true)
theorem grp_f_first_told {K : PySem.W.Frag} {h : Heap} {mg : Str → Option Value} (X : K.In h) (G : h.Ns mainGlobals mg) {f_ : Addr} {oc_f_first_told kV_f_first_told dc_f_first_told pm_f_first_told cd_f_first_told ct_f_first_told : Value} {od_f_first_told an_f_first_told : Option Addr} {sl_f_first_told : Array (Option Value)}
    (a_f_first_told : PySem.W.nsIn K mainGlobals "first_told" = some (some (.ref f_)))
    (l_f_first_told : K.lookup f_ = some ⟨oc_f_first_told, od_f_first_told, .func (PySem.W.fnOf "first_told" "first_told" (defArgs s_f_first_told) (defBody s_f_first_told) (defScope s_f_first_told) .none kV_f_first_told dc_f_first_told pm_f_first_told an_f_first_told cd_f_first_told ct_f_first_told), sl_f_first_told⟩)
    (d_f_first_told : PySem.W.codeIn K cd_f_first_told "first_told" = true)
    (k_f_first_told : PySem.W.keepIn K (.ref f_) = true) : PG_f_first_told K mg :=
  ⟨f_, ⟨_, fun_mk (st := s_f_first_told) l_f_first_told d_f_first_told k_f_first_told⟩, PySem.W.mg_of X G a_f_first_told, k_f_first_told⟩
def PG_f_call_told (K : PySem.W.Frag) (mg : Str → Option Value) : Prop := ∃ (f_ : Addr), (Fn K "call_told" "call_told" s_f_call_told f_) ∧ (mg "call_told" = some (.ref f_)) ∧ (PySem.W.keepIn K (.ref f_) = true)
theorem grp_f_call_told {K : PySem.W.Frag} {h : Heap} {mg : Str → Option Value} (X : K.In h) (G : h.Ns mainGlobals mg) {f_ : Addr} {oc_f_call_told kV_f_call_told dc_f_call_told pm_f_call_told cd_f_call_told ct_f_call_told : Value} {od_f_call_told an_f_call_told : Option Addr} {sl_f_call_told : Array (Option Value)}
    (a_f_call_told : PySem.W.nsIn K mainGlobals "call_told" = some (some (.ref f_)))
    (l_f_call_told : K.lookup f_ = some ⟨oc_f_call_told, od_f_call_told, .func (PySem.W.fnOf "call_told" "call_told" (defArgs s_f_call_told) (defBody s_f_call_told) (defScope s_f_call_told) .none kV_f_call_told dc_f_call_told pm_f_call_told an_f_call_told cd_f_call_told ct_f_call_told), sl_f_call_told⟩)
    (d_f_call_told : PySem.W.codeIn K cd_f_call_told "call_told" = true)
    (k_f_call_told : PySem.W.keepIn K (.ref f_) = true) : PG_f_call_told K mg :=
  ⟨f_, ⟨_, fun_mk (st := s_f_call_told) l_f_call_told d_f_call_told k_f_call_told⟩, PySem.W.mg_of X G a_f_call_told, k_f_call_told⟩
def PG_f_answer_of (K : PySem.W.Frag) (mg : Str → Option Value) : Prop := ∃ (f_ : Addr), (Fn K "answer_of" "answer_of" s_f_answer_of f_) ∧ (mg "answer_of" = some (.ref f_)) ∧ (PySem.W.keepIn K (.ref f_) = true)
theorem grp_f_answer_of {K : PySem.W.Frag} {h : Heap} {mg : Str → Option Value} (X : K.In h) (G : h.Ns mainGlobals mg) {f_ : Addr} {oc_f_answer_of kV_f_answer_of dc_f_answer_of pm_f_answer_of cd_f_answer_of ct_f_answer_of : Value} {od_f_answer_of an_f_answer_of : Option Addr} {sl_f_answer_of : Array (Option Value)}
    (a_f_answer_of : PySem.W.nsIn K mainGlobals "answer_of" = some (some (.ref f_)))
    (l_f_answer_of : K.lookup f_ = some ⟨oc_f_answer_of, od_f_answer_of, .func (PySem.W.fnOf "answer_of" "answer_of" (defArgs s_f_answer_of) (defBody s_f_answer_of) (defScope s_f_answer_of) .none kV_f_answer_of dc_f_answer_of pm_f_answer_of an_f_answer_of cd_f_answer_of ct_f_answer_of), sl_f_answer_of⟩)
    (d_f_answer_of : PySem.W.codeIn K cd_f_answer_of "answer_of" = true)
    (k_f_answer_of : PySem.W.keepIn K (.ref f_) = true) : PG_f_answer_of K mg :=
  ⟨f_, ⟨_, fun_mk (st := s_f_answer_of) l_f_answer_of d_f_answer_of k_f_answer_of⟩, PySem.W.mg_of X G a_f_answer_of, k_f_answer_of⟩
def PG_f_answers (K : PySem.W.Frag) (mg : Str → Option Value) : Prop := ∃ (f_ : Addr), (Fn K "answers" "answers" s_f_answers f_) ∧ (mg "answers" = some (.ref f_)) ∧ (PySem.W.keepIn K (.ref f_) = true)
theorem grp_f_answers {K : PySem.W.Frag} {h : Heap} {mg : Str → Option Value} (X : K.In h) (G : h.Ns mainGlobals mg) {f_ : Addr} {oc_f_answers kV_f_answers dc_f_answers pm_f_answers cd_f_answers ct_f_answers : Value} {od_f_answers an_f_answers : Option Addr} {sl_f_answers : Array (Option Value)}
    (a_f_answers : PySem.W.nsIn K mainGlobals "answers" = some (some (.ref f_)))
    (l_f_answers : K.lookup f_ = some ⟨oc_f_answers, od_f_answers, .func (PySem.W.fnOf "answers" "answers" (defArgs s_f_answers) (defBody s_f_answers) (defScope s_f_answers) .none kV_f_answers dc_f_answers pm_f_answers an_f_answers cd_f_answers ct_f_answers), sl_f_answers⟩)
    (d_f_answers : PySem.W.codeIn K cd_f_answers "answers" = true)
    (k_f_answers : PySem.W.keepIn K (.ref f_) = true) : PG_f_answers K mg :=
  ⟨f_, ⟨_, fun_mk (st := s_f_answers) l_f_answers d_f_answers k_f_answers⟩, PySem.W.mg_of X G a_f_answers, k_f_answers⟩
theorem all_tx {K : PySem.W.Frag} {mg : Str → Option Value} (Q_consts : PG_consts K mg) (Q_ORDER : PG_ORDER K mg) (Q_NUMBERS : PG_NUMBERS K mg) (Q_ROWS : PG_ROWS K mg) (Q_Wr : PG_Wr K mg) (Q_Ru : PG_Ru K mg) (Q_Sc : PG_Sc K mg) (Q_Of : PG_Of K mg) (Q_St : PG_St K mg) (Q_Re : PG_Re K mg) (Q_De : PG_De K mg) (Q_Cr : PG_Cr K mg) (Q_f_words_of : PG_f_words_of K mg) (Q_f_rows_of : PG_f_rows_of K mg) (Q_f_number_of : PG_f_number_of K mg) (Q_f_is_word : PG_f_is_word K mg) (Q_f_bounds_of : PG_f_bounds_of K mg) (Q_f_are_pairs : PG_f_are_pairs K mg) (Q_f_are_right : PG_f_are_right K mg) (Q_f_put_row : PG_f_put_row K mg) (Q_f_rules_of : PG_f_rules_of K mg) (Q_f_refuse_if : PG_f_refuse_if K mg) (Q_f_with_rows : PG_f_with_rows K mg) (Q_f_first_told : PG_f_first_told K mg) (Q_f_call_told : PG_f_call_told K mg) (Q_f_answer_of : PG_f_answer_of K mg) (Q_f_answers : PG_f_answers K mg) : ∃ A : Ads, Tx K mg A := by
  obtain ⟨x_b_len, x_b_sum, x_b_max, x_b_ord, x_b_int, x_b_str, x_b_range, x_b_enumerate, x_b_zip, x_c_BLANK, x_c_ROW_END, x_c_MOST_DIGITS, x_c_MOST_PAIRS, x_c_MOST_DAYS, x_c_MOST_PERCENT, x_c_NO_WORD, x_c_TWICE, x_c_NO_NUMBERS, x_c_MOST_ENTRIES, x_c_MOST_SCHOOLS, x_c_CLEAR, x_c_RULES, x_c_SHOW, x_c_ENTER, x_c_WANT, x_c_BRING, x_c_ACCEPT, x_c_DECLINE, x_c_DROP, x_c_TRANSFER, x_c_PAY, x_c_PAYOUT, x_c_NIGHT, x_c_CLOSE, x_c_SCHOOL, x_c_ACCOUNT, x_c_OFFERS, x_c_QUEUE, x_c_MONEY, x_c_MOST_TEXT, x_c_MOST_DAY⟩ := Q_consts
  obtain ⟨a_ORDER, x_c_ORDER, x_t_ORDER⟩ := Q_ORDER
  obtain ⟨a_NUMBERS, x_c_NUMBERS, x_t_NUMBERS⟩ := Q_NUMBERS
  obtain ⟨a_ROWS, x_c_ROWS, x_t_ROWS⟩ := Q_ROWS
  obtain ⟨A_Wr, A_Wr_init, x_g_Wr, x_na_Wr_kind, x_na_Wr_row, x_ox_Wr, x_i_Wr, x_ti_Wr, x_xf_Wr, x_te_Wr, x_fn_Wr_init⟩ := Q_Wr
  obtain ⟨A_Ru, A_Ru_init, A_Ru_put, A_Ru_rows, A_Ru_owed, A_Ru_percent, A_Ru_given_back, A_Ru_shown, x_g_Ru, x_na_Ru_places, x_na_Ru_form, x_na_Ru_cap, x_na_Ru_judges, x_na_Ru_fee, x_na_Ru_fine, x_na_Ru_answer, x_na_Ru_begin, x_na_Ru_back, x_cl_Ru, x_mk_Ru, x_fn_Ru_init, x_fn_Ru_put, x_m_Ru_put, x_fn_Ru_rows, x_m_Ru_rows, x_fn_Ru_owed, x_m_Ru_owed, x_fn_Ru_percent, x_m_Ru_percent, x_fn_Ru_given_back, x_m_Ru_given_back, x_fn_Ru_shown, x_m_Ru_shown⟩ := Q_Ru
  obtain ⟨A_Sc, A_Sc_init, A_Sc_account, A_Sc_money, x_g_Sc, x_na_Sc_number, x_na_Sc_wanted, x_na_Sc_has, x_na_Sc_judges, x_na_Sc_paid, x_na_Sc_fees, x_na_Sc_given, x_na_Sc_fines, x_na_Sc_out, x_cl_Sc, x_mk_Sc, x_fn_Sc_init, x_fn_Sc_account, x_m_Sc_account, x_fn_Sc_money, x_m_Sc_money⟩ := Q_Sc
  obtain ⟨A_Of, A_Of_init, x_g_Of, x_na_Of_number, x_na_Of_school, x_na_Of_day, x_cl_Of, x_mk_Of, x_fn_Of_init⟩ := Q_Of
  obtain ⟨A_St, A_St_init, A_St_school_at, A_St_offer_at, A_St_standing, A_St_load, A_St_loads, A_St_taken, A_St_waits, A_St_following, A_St_queue, A_St_make_offers, A_St_pass_night, A_St_take_away, A_St_missing, A_St_close, x_g_St, x_na_St_rules, x_na_St_schools, x_na_St_offers, x_na_St_made, x_na_St_day, x_na_St_is_closed, x_na_St_entries, x_cl_St, x_mk_St, x_fn_St_init, x_fn_St_school_at, x_m_St_school_at, x_fn_St_offer_at, x_m_St_offer_at, x_fn_St_standing, x_m_St_standing, x_fn_St_load, x_m_St_load, x_fn_St_loads, x_m_St_loads, x_fn_St_taken, x_m_St_taken, x_fn_St_waits, x_m_St_waits, x_fn_St_following, x_m_St_following, x_fn_St_queue, x_m_St_queue, x_fn_St_make_offers, x_m_St_make_offers, x_fn_St_pass_night, x_m_St_pass_night, x_fn_St_take_away, x_m_St_take_away, x_fn_St_missing, x_m_St_missing, x_fn_St_close, x_m_St_close⟩ := Q_St
  obtain ⟨A_Re, A_Re_init, x_g_Re, x_na_Re_why, x_ox_Re, x_i_Re, x_ti_Re, x_xf_Re, x_te_Re, x_fn_Re_init⟩ := Q_Re
  obtain ⟨A_De, A_De_init, A_De_look_up, A_De_offer, A_De_look_closed, A_De_look_entries, A_De_clear, A_De_put_rules, A_De_enter, A_De_want, A_De_bring, A_De_accept, A_De_decline, A_De_drop, A_De_transfer, A_De_pay, A_De_payout, A_De_night, A_De_close, A_De_school_told, A_De_offers_told, A_De_money, A_De_counts, x_g_De, x_na_De_state, x_cl_De, x_mk_De, x_fn_De_init, x_fn_De_look_up, x_m_De_look_up, x_fn_De_offer, x_m_De_offer, x_fn_De_look_closed, x_m_De_look_closed, x_fn_De_look_entries, x_m_De_look_entries, x_fn_De_clear, x_m_De_clear, x_fn_De_put_rules, x_m_De_put_rules, x_fn_De_enter, x_m_De_enter, x_fn_De_want, x_m_De_want, x_fn_De_bring, x_m_De_bring, x_fn_De_accept, x_m_De_accept, x_fn_De_decline, x_m_De_decline, x_fn_De_drop, x_m_De_drop, x_fn_De_transfer, x_m_De_transfer, x_fn_De_pay, x_m_De_pay, x_fn_De_payout, x_m_De_payout, x_fn_De_night, x_m_De_night, x_fn_De_close, x_m_De_close, x_fn_De_school_told, x_m_De_school_told, x_fn_De_offers_told, x_m_De_offers_told, x_fn_De_money, x_m_De_money, x_fn_De_counts, x_m_De_counts⟩ := Q_De
  obtain ⟨A_Cr, A_Cr_init, A_Cr_is_done, A_Cr_next_some, x_g_Cr, x_na_Cr_calls, x_na_Cr_at, x_cl_Cr, x_mk_Cr, x_fn_Cr_init, x_fn_Cr_is_done, x_m_Cr_is_done, x_fn_Cr_next_some, x_m_Cr_next_some⟩ := Q_Cr
  obtain ⟨A_f_words_of, x_fn_f_words_of, x_g_f_words_of, x_k_f_words_of⟩ := Q_f_words_of
  obtain ⟨A_f_rows_of, x_fn_f_rows_of, x_g_f_rows_of, x_k_f_rows_of⟩ := Q_f_rows_of
  obtain ⟨A_f_number_of, x_fn_f_number_of, x_g_f_number_of, x_k_f_number_of⟩ := Q_f_number_of
  obtain ⟨A_f_is_word, x_fn_f_is_word, x_g_f_is_word, x_k_f_is_word⟩ := Q_f_is_word
  obtain ⟨A_f_bounds_of, x_fn_f_bounds_of, x_g_f_bounds_of, x_k_f_bounds_of⟩ := Q_f_bounds_of
  obtain ⟨A_f_are_pairs, x_fn_f_are_pairs, x_g_f_are_pairs, x_k_f_are_pairs⟩ := Q_f_are_pairs
  obtain ⟨A_f_are_right, x_fn_f_are_right, x_g_f_are_right, x_k_f_are_right⟩ := Q_f_are_right
  obtain ⟨A_f_put_row, x_fn_f_put_row, x_g_f_put_row, x_k_f_put_row⟩ := Q_f_put_row
  obtain ⟨A_f_rules_of, x_fn_f_rules_of, x_g_f_rules_of, x_k_f_rules_of⟩ := Q_f_rules_of
  obtain ⟨A_f_refuse_if, x_fn_f_refuse_if, x_g_f_refuse_if, x_k_f_refuse_if⟩ := Q_f_refuse_if
  obtain ⟨A_f_with_rows, x_fn_f_with_rows, x_g_f_with_rows, x_k_f_with_rows⟩ := Q_f_with_rows
  obtain ⟨A_f_first_told, x_fn_f_first_told, x_g_f_first_told, x_k_f_first_told⟩ := Q_f_first_told
  obtain ⟨A_f_call_told, x_fn_f_call_told, x_g_f_call_told, x_k_f_call_told⟩ := Q_f_call_told
  obtain ⟨A_f_answer_of, x_fn_f_answer_of, x_g_f_answer_of, x_k_f_answer_of⟩ := Q_f_answer_of
  obtain ⟨A_f_answers, x_fn_f_answers, x_g_f_answers, x_k_f_answers⟩ := Q_f_answers
  exact ⟨{ Wr := A_Wr, Ru := A_Ru, Sc := A_Sc, Of := A_Of, St := A_St, Re := A_Re, De := A_De, Cr := A_Cr, Wr_init := A_Wr_init, Ru_init := A_Ru_init, Ru_put := A_Ru_put, Ru_rows := A_Ru_rows, Ru_owed := A_Ru_owed, Ru_percent := A_Ru_percent, Ru_given_back := A_Ru_given_back, Ru_shown := A_Ru_shown, f_words_of := A_f_words_of, f_rows_of := A_f_rows_of, f_number_of := A_f_number_of, f_is_word := A_f_is_word, f_bounds_of := A_f_bounds_of, f_are_pairs := A_f_are_pairs, f_are_right := A_f_are_right, f_put_row := A_f_put_row, f_rules_of := A_f_rules_of, Sc_init := A_Sc_init, Sc_account := A_Sc_account, Sc_money := A_Sc_money, Of_init := A_Of_init, St_init := A_St_init, St_school_at := A_St_school_at, St_offer_at := A_St_offer_at, St_standing := A_St_standing, St_load := A_St_load, St_loads := A_St_loads, St_taken := A_St_taken, St_waits := A_St_waits, St_following := A_St_following, St_queue := A_St_queue, St_make_offers := A_St_make_offers, St_pass_night := A_St_pass_night, St_take_away := A_St_take_away, St_missing := A_St_missing, St_close := A_St_close, Re_init := A_Re_init, f_refuse_if := A_f_refuse_if, f_with_rows := A_f_with_rows, De_init := A_De_init, De_look_up := A_De_look_up, De_offer := A_De_offer, De_look_closed := A_De_look_closed, De_look_entries := A_De_look_entries, De_clear := A_De_clear, De_put_rules := A_De_put_rules, De_enter := A_De_enter, De_want := A_De_want, De_bring := A_De_bring, De_accept := A_De_accept, De_decline := A_De_decline, De_drop := A_De_drop, De_transfer := A_De_transfer, De_pay := A_De_pay, De_payout := A_De_payout, De_night := A_De_night, De_close := A_De_close, De_school_told := A_De_school_told, De_offers_told := A_De_offers_told, De_money := A_De_money, De_counts := A_De_counts, f_first_told := A_f_first_told, f_call_told := A_f_call_told, f_answer_of := A_f_answer_of, Cr_init := A_Cr_init, Cr_is_done := A_Cr_is_done, Cr_next_some := A_Cr_next_some, f_answers := A_f_answers, ORDER := a_ORDER, NUMBERS := a_NUMBERS, ROWS := a_ROWS }, { b_len := x_b_len, b_sum := x_b_sum, b_max := x_b_max, b_ord := x_b_ord, b_int := x_b_int, b_str := x_b_str, b_range := x_b_range, b_enumerate := x_b_enumerate, b_zip := x_b_zip, c_BLANK := x_c_BLANK, c_ROW_END := x_c_ROW_END, c_MOST_DIGITS := x_c_MOST_DIGITS, c_MOST_PAIRS := x_c_MOST_PAIRS, c_MOST_DAYS := x_c_MOST_DAYS, c_MOST_PERCENT := x_c_MOST_PERCENT, c_NO_WORD := x_c_NO_WORD, c_TWICE := x_c_TWICE, c_NO_NUMBERS := x_c_NO_NUMBERS, c_MOST_ENTRIES := x_c_MOST_ENTRIES, c_MOST_SCHOOLS := x_c_MOST_SCHOOLS, c_CLEAR := x_c_CLEAR, c_RULES := x_c_RULES, c_SHOW := x_c_SHOW, c_ENTER := x_c_ENTER, c_WANT := x_c_WANT, c_BRING := x_c_BRING, c_ACCEPT := x_c_ACCEPT, c_DECLINE := x_c_DECLINE, c_DROP := x_c_DROP, c_TRANSFER := x_c_TRANSFER, c_PAY := x_c_PAY, c_PAYOUT := x_c_PAYOUT, c_NIGHT := x_c_NIGHT, c_CLOSE := x_c_CLOSE, c_SCHOOL := x_c_SCHOOL, c_ACCOUNT := x_c_ACCOUNT, c_OFFERS := x_c_OFFERS, c_QUEUE := x_c_QUEUE, c_MONEY := x_c_MONEY, c_MOST_TEXT := x_c_MOST_TEXT, c_MOST_DAY := x_c_MOST_DAY, c_ORDER := x_c_ORDER, t_ORDER := x_t_ORDER, c_NUMBERS := x_c_NUMBERS, t_NUMBERS := x_t_NUMBERS, c_ROWS := x_c_ROWS, t_ROWS := x_t_ROWS, g_Wr := x_g_Wr, na_Wr_kind := x_na_Wr_kind, na_Wr_row := x_na_Wr_row, ox_Wr := x_ox_Wr, i_Wr := x_i_Wr, ti_Wr := x_ti_Wr, xf_Wr := x_xf_Wr, te_Wr := x_te_Wr, fn_Wr_init := x_fn_Wr_init, g_Ru := x_g_Ru, na_Ru_places := x_na_Ru_places, na_Ru_form := x_na_Ru_form, na_Ru_cap := x_na_Ru_cap, na_Ru_judges := x_na_Ru_judges, na_Ru_fee := x_na_Ru_fee, na_Ru_fine := x_na_Ru_fine, na_Ru_answer := x_na_Ru_answer, na_Ru_begin := x_na_Ru_begin, na_Ru_back := x_na_Ru_back, cl_Ru := x_cl_Ru, mk_Ru := x_mk_Ru, fn_Ru_init := x_fn_Ru_init, fn_Ru_put := x_fn_Ru_put, m_Ru_put := x_m_Ru_put, fn_Ru_rows := x_fn_Ru_rows, m_Ru_rows := x_m_Ru_rows, fn_Ru_owed := x_fn_Ru_owed, m_Ru_owed := x_m_Ru_owed, fn_Ru_percent := x_fn_Ru_percent, m_Ru_percent := x_m_Ru_percent, fn_Ru_given_back := x_fn_Ru_given_back, m_Ru_given_back := x_m_Ru_given_back, fn_Ru_shown := x_fn_Ru_shown, m_Ru_shown := x_m_Ru_shown, g_Sc := x_g_Sc, na_Sc_number := x_na_Sc_number, na_Sc_wanted := x_na_Sc_wanted, na_Sc_has := x_na_Sc_has, na_Sc_judges := x_na_Sc_judges, na_Sc_paid := x_na_Sc_paid, na_Sc_fees := x_na_Sc_fees, na_Sc_given := x_na_Sc_given, na_Sc_fines := x_na_Sc_fines, na_Sc_out := x_na_Sc_out, cl_Sc := x_cl_Sc, mk_Sc := x_mk_Sc, fn_Sc_init := x_fn_Sc_init, fn_Sc_account := x_fn_Sc_account, m_Sc_account := x_m_Sc_account, fn_Sc_money := x_fn_Sc_money, m_Sc_money := x_m_Sc_money, g_Of := x_g_Of, na_Of_number := x_na_Of_number, na_Of_school := x_na_Of_school, na_Of_day := x_na_Of_day, cl_Of := x_cl_Of, mk_Of := x_mk_Of, fn_Of_init := x_fn_Of_init, g_St := x_g_St, na_St_rules := x_na_St_rules, na_St_schools := x_na_St_schools, na_St_offers := x_na_St_offers, na_St_made := x_na_St_made, na_St_day := x_na_St_day, na_St_is_closed := x_na_St_is_closed, na_St_entries := x_na_St_entries, cl_St := x_cl_St, mk_St := x_mk_St, fn_St_init := x_fn_St_init, fn_St_school_at := x_fn_St_school_at, m_St_school_at := x_m_St_school_at, fn_St_offer_at := x_fn_St_offer_at, m_St_offer_at := x_m_St_offer_at, fn_St_standing := x_fn_St_standing, m_St_standing := x_m_St_standing, fn_St_load := x_fn_St_load, m_St_load := x_m_St_load, fn_St_loads := x_fn_St_loads, m_St_loads := x_m_St_loads, fn_St_taken := x_fn_St_taken, m_St_taken := x_m_St_taken, fn_St_waits := x_fn_St_waits, m_St_waits := x_m_St_waits, fn_St_following := x_fn_St_following, m_St_following := x_m_St_following, fn_St_queue := x_fn_St_queue, m_St_queue := x_m_St_queue, fn_St_make_offers := x_fn_St_make_offers, m_St_make_offers := x_m_St_make_offers, fn_St_pass_night := x_fn_St_pass_night, m_St_pass_night := x_m_St_pass_night, fn_St_take_away := x_fn_St_take_away, m_St_take_away := x_m_St_take_away, fn_St_missing := x_fn_St_missing, m_St_missing := x_m_St_missing, fn_St_close := x_fn_St_close, m_St_close := x_m_St_close, g_Re := x_g_Re, na_Re_why := x_na_Re_why, ox_Re := x_ox_Re, i_Re := x_i_Re, ti_Re := x_ti_Re, xf_Re := x_xf_Re, te_Re := x_te_Re, fn_Re_init := x_fn_Re_init, g_De := x_g_De, na_De_state := x_na_De_state, cl_De := x_cl_De, mk_De := x_mk_De, fn_De_init := x_fn_De_init, fn_De_look_up := x_fn_De_look_up, m_De_look_up := x_m_De_look_up, fn_De_offer := x_fn_De_offer, m_De_offer := x_m_De_offer, fn_De_look_closed := x_fn_De_look_closed, m_De_look_closed := x_m_De_look_closed, fn_De_look_entries := x_fn_De_look_entries, m_De_look_entries := x_m_De_look_entries, fn_De_clear := x_fn_De_clear, m_De_clear := x_m_De_clear, fn_De_put_rules := x_fn_De_put_rules, m_De_put_rules := x_m_De_put_rules, fn_De_enter := x_fn_De_enter, m_De_enter := x_m_De_enter, fn_De_want := x_fn_De_want, m_De_want := x_m_De_want, fn_De_bring := x_fn_De_bring, m_De_bring := x_m_De_bring, fn_De_accept := x_fn_De_accept, m_De_accept := x_m_De_accept, fn_De_decline := x_fn_De_decline, m_De_decline := x_m_De_decline, fn_De_drop := x_fn_De_drop, m_De_drop := x_m_De_drop, fn_De_transfer := x_fn_De_transfer, m_De_transfer := x_m_De_transfer, fn_De_pay := x_fn_De_pay, m_De_pay := x_m_De_pay, fn_De_payout := x_fn_De_payout, m_De_payout := x_m_De_payout, fn_De_night := x_fn_De_night, m_De_night := x_m_De_night, fn_De_close := x_fn_De_close, m_De_close := x_m_De_close, fn_De_school_told := x_fn_De_school_told, m_De_school_told := x_m_De_school_told, fn_De_offers_told := x_fn_De_offers_told, m_De_offers_told := x_m_De_offers_told, fn_De_money := x_fn_De_money, m_De_money := x_m_De_money, fn_De_counts := x_fn_De_counts, m_De_counts := x_m_De_counts, g_Cr := x_g_Cr, na_Cr_calls := x_na_Cr_calls, na_Cr_at := x_na_Cr_at, cl_Cr := x_cl_Cr, mk_Cr := x_mk_Cr, fn_Cr_init := x_fn_Cr_init, fn_Cr_is_done := x_fn_Cr_is_done, m_Cr_is_done := x_m_Cr_is_done, fn_Cr_next_some := x_fn_Cr_next_some, m_Cr_next_some := x_m_Cr_next_some, fn_f_words_of := x_fn_f_words_of, g_f_words_of := x_g_f_words_of, k_f_words_of := x_k_f_words_of, fn_f_rows_of := x_fn_f_rows_of, g_f_rows_of := x_g_f_rows_of, k_f_rows_of := x_k_f_rows_of, fn_f_number_of := x_fn_f_number_of, g_f_number_of := x_g_f_number_of, k_f_number_of := x_k_f_number_of, fn_f_is_word := x_fn_f_is_word, g_f_is_word := x_g_f_is_word, k_f_is_word := x_k_f_is_word, fn_f_bounds_of := x_fn_f_bounds_of, g_f_bounds_of := x_g_f_bounds_of, k_f_bounds_of := x_k_f_bounds_of, fn_f_are_pairs := x_fn_f_are_pairs, g_f_are_pairs := x_g_f_are_pairs, k_f_are_pairs := x_k_f_are_pairs, fn_f_are_right := x_fn_f_are_right, g_f_are_right := x_g_f_are_right, k_f_are_right := x_k_f_are_right, fn_f_put_row := x_fn_f_put_row, g_f_put_row := x_g_f_put_row, k_f_put_row := x_k_f_put_row, fn_f_rules_of := x_fn_f_rules_of, g_f_rules_of := x_g_f_rules_of, k_f_rules_of := x_k_f_rules_of, fn_f_refuse_if := x_fn_f_refuse_if, g_f_refuse_if := x_g_f_refuse_if, k_f_refuse_if := x_k_f_refuse_if, fn_f_with_rows := x_fn_f_with_rows, g_f_with_rows := x_g_f_with_rows, k_f_with_rows := x_k_f_with_rows, fn_f_first_told := x_fn_f_first_told, g_f_first_told := x_g_f_first_told, k_f_first_told := x_k_f_first_told, fn_f_call_told := x_fn_f_call_told, g_f_call_told := x_g_f_call_told, k_f_call_told := x_k_f_call_told, fn_f_answer_of := x_fn_f_answer_of, g_f_answer_of := x_g_f_answer_of, k_f_answer_of := x_k_f_answer_of, fn_f_answers := x_fn_f_answers, g_f_answers := x_g_f_answers, k_f_answers := x_k_f_answers }⟩
theorem end_answers {P : Program} {w : World} {K : PySem.W.Frag} {mg : Str → Option Value} {A : Ads} (X : Tx K mg A) : ∃ fd : FuncData, (∀ (s : Shared) (us : List Value), us.length = (["calls"] : List Str).length → BindsTo s fd ⟨us, []⟩ ((["calls"] : List Str).zip us)) ∧ ∀ base : Heap, FnOk P w K mg base CX0 9 A.f_answers fd ["calls"] (sp_answers K) := by
  obtain ⟨fd, F⟩ := X.fn_f_answers
  have G : ∀ base : Heap, FnOk P w K mg base CX0 9 A.f_answers fd ["calls"] (sp_answers K) := fun base => (ok_f_answers (base := base) X F).1
  obtain ⟨oc, od, kV, doc, pm, an, cdv, ct, osl, rfl, lk, hcd⟩ := F.ex
  exact ⟨_, fun s us hl => match us, hl with | [_], _ => .of_eq rfl, G⟩
end Eh

-- MAIN
open PySem PySem.W PyProof.Rows
set_option maxRecDepth 100000 in
set_option maxHeartbeats 40000000 in
theorem PySem.Challenge.cw_entryhouse_s01_answers_holds : PySem.Challenge.rw_entryhouse_s01_answers.Holds := by
  w_on; k_headS; (case hw => exact ⟨[.list [.int 0]], by decide +kernel, by decide +kernel⟩)
  k_fillS
  refine L2.walk_specK (r := PySem.Challenge.rw_entryhouse_s01_answers) (k := 9) (CX := L2.CX0) (ps := ["calls"]) (sp := Eh.sp_answers) (by decide +kernel) rfl rfl ⟨rfl, by decide, by decide⟩ (fun w h Y => PySem.W.kIn_of Y) ?F ?S (fun _ _ _ _ z => z)
  case F =>
    intro w mg fa h Y KX G hmg
    refine' Eh.cut_in KX (P := fun K => Eh.PG_consts K mg) ?p_consts (fun Q_consts => ?_)
    case p_consts =>
      refine' Eh.grp_consts KX G ?b_len ?b_sum ?b_max ?b_ord ?b_int ?b_str ?b_range ?b_enumerate ?b_zip ?c_BLANK ?c_ROW_END ?c_MOST_DIGITS ?c_MOST_PAIRS ?c_MOST_DAYS ?c_MOST_PERCENT ?c_NO_WORD ?c_TWICE ?c_NO_NUMBERS ?c_MOST_ENTRIES ?c_MOST_SCHOOLS ?c_CLEAR ?c_RULES ?c_SHOW ?c_ENTER ?c_WANT ?c_BRING ?c_ACCEPT ?c_DECLINE ?c_DROP ?c_TRANSFER ?c_PAY ?c_PAYOUT ?c_NIGHT ?c_CLOSE ?c_SCHOOL ?c_ACCOUNT ?c_OFFERS ?c_QUEUE ?c_MONEY ?c_MOST_TEXT ?c_MOST_DAY
      (case b_len => k_is)
      (case b_sum => k_is)
      (case b_max => k_is)
      (case b_ord => k_is)
      (case b_int => k_is)
      (case b_str => k_is)
      (case b_range => k_is)
      (case b_enumerate => k_is)
      (case b_zip => k_is)
      (case c_BLANK => k_is)
      (case c_ROW_END => k_is)
      (case c_MOST_DIGITS => k_is)
      (case c_MOST_PAIRS => k_is)
      (case c_MOST_DAYS => k_is)
      (case c_MOST_PERCENT => k_is)
      (case c_NO_WORD => k_is)
      (case c_TWICE => k_is)
      (case c_NO_NUMBERS => k_is)
      (case c_MOST_ENTRIES => k_is)
      (case c_MOST_SCHOOLS => k_is)
      (case c_CLEAR => k_is)
      (case c_RULES => k_is)
      (case c_SHOW => k_is)
      (case c_ENTER => k_is)
      (case c_WANT => k_is)
      (case c_BRING => k_is)
      (case c_ACCEPT => k_is)
      (case c_DECLINE => k_is)
      (case c_DROP => k_is)
      (case c_TRANSFER => k_is)
      (case c_PAY => k_is)
      (case c_PAYOUT => k_is)
      (case c_NIGHT => k_is)
      (case c_CLOSE => k_is)
      (case c_SCHOOL => k_is)
      (case c_ACCOUNT => k_is)
      (case c_OFFERS => k_is)
      (case c_QUEUE => k_is)
      (case c_MONEY => k_is)
      (case c_MOST_TEXT => k_is)
      (case c_MOST_DAY => k_is)
    refine' Eh.cut_in KX (P := fun K => Eh.PG_ORDER K mg) ?p_ORDER (fun Q_ORDER => ?_)
    case p_ORDER =>
      refine' Eh.grp_ORDER KX G ?c_ORDER ?l_ORDER ?o_ORDER ?z_ORDER ?v_ORDER
      (case c_ORDER => k_is)
      (case l_ORDER => k_is)
      (case o_ORDER => rfl)
      (case z_ORDER => decide +kernel)
      (case v_ORDER => exact .cons ⟨_, rfl⟩ (.cons ⟨_, rfl⟩ (.cons ⟨_, rfl⟩ (.cons ⟨_, rfl⟩ (.cons ⟨_, rfl⟩ (.cons ⟨_, rfl⟩ (.cons ⟨_, rfl⟩ (.cons ⟨_, rfl⟩ (.cons ⟨_, rfl⟩ (.nil))))))))))
    refine' Eh.cut_in KX (P := fun K => Eh.PG_NUMBERS K mg) ?p_NUMBERS (fun Q_NUMBERS => ?_)
    case p_NUMBERS =>
      refine' Eh.grp_NUMBERS KX G ?c_NUMBERS ?l_NUMBERS ?o_NUMBERS ?z_NUMBERS ?v_NUMBERS
      (case c_NUMBERS => k_is)
      (case l_NUMBERS => k_is)
      (case o_NUMBERS => rfl)
      (case z_NUMBERS => decide +kernel)
      (case v_NUMBERS => exact .cons ⟨_, rfl⟩ (.cons ⟨_, rfl⟩ (.cons ⟨_, rfl⟩ (.cons ⟨_, rfl⟩ (.cons ⟨_, rfl⟩ (.cons ⟨_, rfl⟩ (.cons ⟨_, rfl⟩ (.cons ⟨_, rfl⟩ (.cons ⟨_, rfl⟩ (.cons ⟨_, rfl⟩ (.cons ⟨_, rfl⟩ (.cons ⟨_, rfl⟩ (.cons ⟨_, rfl⟩ (.cons ⟨_, rfl⟩ (.cons ⟨_, rfl⟩ (.cons ⟨_, rfl⟩ (.cons ⟨_, rfl⟩ (.cons ⟨_, rfl⟩ (.cons ⟨_, rfl⟩ (.cons ⟨_, rfl⟩ (.nil)))))))))))))))))))))
    refine' Eh.cut_in KX (P := fun K => Eh.PG_ROWS K mg) ?p_ROWS (fun Q_ROWS => ?_)
    case p_ROWS =>
      refine' Eh.grp_ROWS KX G ?c_ROWS ?l_ROWS ?o_ROWS ?z_ROWS ?v_ROWS
      (case c_ROWS => k_is)
      (case l_ROWS => k_is)
      (case o_ROWS => rfl)
      (case z_ROWS => decide +kernel)
      (case v_ROWS => exact .cons ⟨_, rfl⟩ (.cons ⟨_, rfl⟩ (.cons ⟨_, rfl⟩ (.cons ⟨_, rfl⟩ (.cons ⟨_, rfl⟩ (.cons ⟨_, rfl⟩ (.cons ⟨_, rfl⟩ (.cons ⟨_, rfl⟩ (.cons ⟨_, rfl⟩ (.cons ⟨_, rfl⟩ (.cons ⟨_, rfl⟩ (.cons ⟨_, rfl⟩ (.cons ⟨_, rfl⟩ (.cons ⟨_, rfl⟩ (.cons ⟨_, rfl⟩ (.cons ⟨_, rfl⟩ (.cons ⟨_, rfl⟩ (.cons ⟨_, rfl⟩ (.cons ⟨_, rfl⟩ (.cons ⟨_, rfl⟩ (.nil)))))))))))))))))))))
    refine' Eh.cut_in KX (P := fun K => Eh.PG_Wr K mg) ?p_Wr (fun Q_Wr => ?_)
    case p_Wr =>
      refine' Eh.grp_Wr KX G ?g_Wr ?na_Wr_kind ?na_Wr_row ?i_Wr ?x_Wr ?sa_Wr ?ga_Wr ?gg_Wr ?ex_Wr ?ty_Wr ?kc_Wr ?hd_Wr ?ic_Wr ?ss_Wr ?ti_Wr ?vb_Wr ?l_Wr_init ?d_Wr_init ?k_Wr_init
      (case g_Wr => k_is)
      (case na_Wr_kind => k_is)
      (case na_Wr_row => k_is)
      (case i_Wr => k_is)
      (case x_Wr => k_is)
      (case sa_Wr => k_is)
      (case ga_Wr => k_is)
      (case gg_Wr => k_is)
      (case ex_Wr => k_is)
      (case ty_Wr => k_is)
      (case kc_Wr => k_is)
      (case hd_Wr => k_is)
      (case ic_Wr => k_is)
      (case ss_Wr => first | rfl | k_is)
      (case ti_Wr => k_is)
      (case vb_Wr => decide +kernel)
      (case l_Wr_init => k_is)
      (case d_Wr_init => k_is)
      (case k_Wr_init => k_is)
    refine' Eh.cut_in KX (P := fun K => Eh.PG_Ru K mg) ?p_Ru (fun Q_Ru => ?_)
    case p_Ru =>
      refine' Eh.grp_Ru KX G ?g_Ru ?na_Ru_places ?na_Ru_form ?na_Ru_cap ?na_Ru_judges ?na_Ru_fee ?na_Ru_fine ?na_Ru_answer ?na_Ru_begin ?na_Ru_back ?i_Ru ?pg_Ru ?hd_Ru ?po_Ru ?sa_Ru ?mk_Ru ?fi_Ru ?kc_Ru ?l_Ru_init ?d_Ru_init ?k_Ru_init ?a_Ru_put ?n_Ru_put ?l_Ru_put ?d_Ru_put ?k_Ru_put ?a_Ru_rows ?n_Ru_rows ?l_Ru_rows ?d_Ru_rows ?k_Ru_rows ?a_Ru_owed ?n_Ru_owed ?l_Ru_owed ?d_Ru_owed ?k_Ru_owed ?a_Ru_percent ?n_Ru_percent ?l_Ru_percent ?d_Ru_percent ?k_Ru_percent ?a_Ru_given_back ?n_Ru_given_back ?l_Ru_given_back ?d_Ru_given_back ?k_Ru_given_back ?a_Ru_shown ?n_Ru_shown ?l_Ru_shown ?d_Ru_shown ?k_Ru_shown
      (case g_Ru => k_is)
      (case na_Ru_places => k_is)
      (case na_Ru_form => k_is)
      (case na_Ru_cap => k_is)
      (case na_Ru_judges => k_is)
      (case na_Ru_fee => k_is)
      (case na_Ru_fine => k_is)
      (case na_Ru_answer => k_is)
      (case na_Ru_begin => k_is)
      (case na_Ru_back => k_is)
      (case i_Ru => k_is)
      (case pg_Ru => k_is)
      (case hd_Ru => k_is)
      (case po_Ru => k_is)
      (case sa_Ru => k_is)
      (case mk_Ru => k_is)
      (case fi_Ru => k_is)
      (case kc_Ru => k_is)
      (case l_Ru_init => k_is)
      (case d_Ru_init => k_is)
      (case k_Ru_init => k_is)
      (case a_Ru_put => k_is)
      (case n_Ru_put => k_is)
      (case l_Ru_put => k_is)
      (case d_Ru_put => k_is)
      (case k_Ru_put => k_is)
      (case a_Ru_rows => k_is)
      (case n_Ru_rows => k_is)
      (case l_Ru_rows => k_is)
      (case d_Ru_rows => k_is)
      (case k_Ru_rows => k_is)
      (case a_Ru_owed => k_is)
      (case n_Ru_owed => k_is)
      (case l_Ru_owed => k_is)
      (case d_Ru_owed => k_is)
      (case k_Ru_owed => k_is)
      (case a_Ru_percent => k_is)
      (case n_Ru_percent => k_is)
      (case l_Ru_percent => k_is)
      (case d_Ru_percent => k_is)
      (case k_Ru_percent => k_is)
      (case a_Ru_given_back => k_is)
      (case n_Ru_given_back => k_is)
      (case l_Ru_given_back => k_is)
      (case d_Ru_given_back => k_is)
      (case k_Ru_given_back => k_is)
      (case a_Ru_shown => k_is)
      (case n_Ru_shown => k_is)
      (case l_Ru_shown => k_is)
      (case d_Ru_shown => k_is)
      (case k_Ru_shown => k_is)
    refine' Eh.cut_in KX (P := fun K => Eh.PG_Sc K mg) ?p_Sc (fun Q_Sc => ?_)
    case p_Sc =>
      refine' Eh.grp_Sc KX G ?g_Sc ?na_Sc_number ?na_Sc_wanted ?na_Sc_has ?na_Sc_judges ?na_Sc_paid ?na_Sc_fees ?na_Sc_given ?na_Sc_fines ?na_Sc_out ?i_Sc ?pg_Sc ?hd_Sc ?po_Sc ?sa_Sc ?mk_Sc ?fi_Sc ?kc_Sc ?l_Sc_init ?d_Sc_init ?k_Sc_init ?a_Sc_account ?n_Sc_account ?l_Sc_account ?d_Sc_account ?k_Sc_account ?a_Sc_money ?n_Sc_money ?l_Sc_money ?d_Sc_money ?k_Sc_money
      (case g_Sc => k_is)
      (case na_Sc_number => k_is)
      (case na_Sc_wanted => k_is)
      (case na_Sc_has => k_is)
      (case na_Sc_judges => k_is)
      (case na_Sc_paid => k_is)
      (case na_Sc_fees => k_is)
      (case na_Sc_given => k_is)
      (case na_Sc_fines => k_is)
      (case na_Sc_out => k_is)
      (case i_Sc => k_is)
      (case pg_Sc => k_is)
      (case hd_Sc => k_is)
      (case po_Sc => k_is)
      (case sa_Sc => k_is)
      (case mk_Sc => k_is)
      (case fi_Sc => k_is)
      (case kc_Sc => k_is)
      (case l_Sc_init => k_is)
      (case d_Sc_init => k_is)
      (case k_Sc_init => k_is)
      (case a_Sc_account => k_is)
      (case n_Sc_account => k_is)
      (case l_Sc_account => k_is)
      (case d_Sc_account => k_is)
      (case k_Sc_account => k_is)
      (case a_Sc_money => k_is)
      (case n_Sc_money => k_is)
      (case l_Sc_money => k_is)
      (case d_Sc_money => k_is)
      (case k_Sc_money => k_is)
    refine' Eh.cut_in KX (P := fun K => Eh.PG_Of K mg) ?p_Of (fun Q_Of => ?_)
    case p_Of =>
      refine' Eh.grp_Of KX G ?g_Of ?na_Of_number ?na_Of_school ?na_Of_day ?i_Of ?pg_Of ?hd_Of ?po_Of ?sa_Of ?mk_Of ?fi_Of ?kc_Of ?l_Of_init ?d_Of_init ?k_Of_init
      (case g_Of => k_is)
      (case na_Of_number => k_is)
      (case na_Of_school => k_is)
      (case na_Of_day => k_is)
      (case i_Of => k_is)
      (case pg_Of => k_is)
      (case hd_Of => k_is)
      (case po_Of => k_is)
      (case sa_Of => k_is)
      (case mk_Of => k_is)
      (case fi_Of => k_is)
      (case kc_Of => k_is)
      (case l_Of_init => k_is)
      (case d_Of_init => k_is)
      (case k_Of_init => k_is)
    refine' Eh.cut_in KX (P := fun K => Eh.PG_St K mg) ?p_St (fun Q_St => ?_)
    case p_St =>
      refine' Eh.grp_St KX G ?g_St ?na_St_rules ?na_St_schools ?na_St_offers ?na_St_made ?na_St_day ?na_St_is_closed ?na_St_entries ?i_St ?pg_St ?hd_St ?po_St ?sa_St ?mk_St ?fi_St ?kc_St ?l_St_init ?d_St_init ?k_St_init ?a_St_school_at ?n_St_school_at ?l_St_school_at ?d_St_school_at ?k_St_school_at ?a_St_offer_at ?n_St_offer_at ?l_St_offer_at ?d_St_offer_at ?k_St_offer_at ?a_St_standing ?n_St_standing ?l_St_standing ?d_St_standing ?k_St_standing ?a_St_load ?n_St_load ?l_St_load ?d_St_load ?k_St_load ?a_St_loads ?n_St_loads ?l_St_loads ?d_St_loads ?k_St_loads ?a_St_taken ?n_St_taken ?l_St_taken ?d_St_taken ?k_St_taken ?a_St_waits ?n_St_waits ?l_St_waits ?d_St_waits ?k_St_waits ?a_St_following ?n_St_following ?l_St_following ?d_St_following ?k_St_following ?a_St_queue ?n_St_queue ?l_St_queue ?d_St_queue ?k_St_queue ?a_St_make_offers ?n_St_make_offers ?l_St_make_offers ?d_St_make_offers ?k_St_make_offers ?a_St_pass_night ?n_St_pass_night ?l_St_pass_night ?d_St_pass_night ?k_St_pass_night ?a_St_take_away ?n_St_take_away ?l_St_take_away ?d_St_take_away ?k_St_take_away ?a_St_missing ?n_St_missing ?l_St_missing ?d_St_missing ?k_St_missing ?a_St_close ?n_St_close ?l_St_close ?d_St_close ?k_St_close
      (case g_St => k_is)
      (case na_St_rules => k_is)
      (case na_St_schools => k_is)
      (case na_St_offers => k_is)
      (case na_St_made => k_is)
      (case na_St_day => k_is)
      (case na_St_is_closed => k_is)
      (case na_St_entries => k_is)
      (case i_St => k_is)
      (case pg_St => k_is)
      (case hd_St => k_is)
      (case po_St => k_is)
      (case sa_St => k_is)
      (case mk_St => k_is)
      (case fi_St => k_is)
      (case kc_St => k_is)
      (case l_St_init => k_is)
      (case d_St_init => k_is)
      (case k_St_init => k_is)
      (case a_St_school_at => k_is)
      (case n_St_school_at => k_is)
      (case l_St_school_at => k_is)
      (case d_St_school_at => k_is)
      (case k_St_school_at => k_is)
      (case a_St_offer_at => k_is)
      (case n_St_offer_at => k_is)
      (case l_St_offer_at => k_is)
      (case d_St_offer_at => k_is)
      (case k_St_offer_at => k_is)
      (case a_St_standing => k_is)
      (case n_St_standing => k_is)
      (case l_St_standing => k_is)
      (case d_St_standing => k_is)
      (case k_St_standing => k_is)
      (case a_St_load => k_is)
      (case n_St_load => k_is)
      (case l_St_load => k_is)
      (case d_St_load => k_is)
      (case k_St_load => k_is)
      (case a_St_loads => k_is)
      (case n_St_loads => k_is)
      (case l_St_loads => k_is)
      (case d_St_loads => k_is)
      (case k_St_loads => k_is)
      (case a_St_taken => k_is)
      (case n_St_taken => k_is)
      (case l_St_taken => k_is)
      (case d_St_taken => k_is)
      (case k_St_taken => k_is)
      (case a_St_waits => k_is)
      (case n_St_waits => k_is)
      (case l_St_waits => k_is)
      (case d_St_waits => k_is)
      (case k_St_waits => k_is)
      (case a_St_following => k_is)
      (case n_St_following => k_is)
      (case l_St_following => k_is)
      (case d_St_following => k_is)
      (case k_St_following => k_is)
      (case a_St_queue => k_is)
      (case n_St_queue => k_is)
      (case l_St_queue => k_is)
      (case d_St_queue => k_is)
      (case k_St_queue => k_is)
      (case a_St_make_offers => k_is)
      (case n_St_make_offers => k_is)
      (case l_St_make_offers => k_is)
      (case d_St_make_offers => k_is)
      (case k_St_make_offers => k_is)
      (case a_St_pass_night => k_is)
      (case n_St_pass_night => k_is)
      (case l_St_pass_night => k_is)
      (case d_St_pass_night => k_is)
      (case k_St_pass_night => k_is)
      (case a_St_take_away => k_is)
      (case n_St_take_away => k_is)
      (case l_St_take_away => k_is)
      (case d_St_take_away => k_is)
      (case k_St_take_away => k_is)
      (case a_St_missing => k_is)
      (case n_St_missing => k_is)
      (case l_St_missing => k_is)
      (case d_St_missing => k_is)
      (case k_St_missing => k_is)
      (case a_St_close => k_is)
      (case n_St_close => k_is)
      (case l_St_close => k_is)
      (case d_St_close => k_is)
      (case k_St_close => k_is)
    refine' Eh.cut_in KX (P := fun K => Eh.PG_Re K mg) ?p_Re (fun Q_Re => ?_)
    case p_Re =>
      refine' Eh.grp_Re KX G ?g_Re ?na_Re_why ?i_Re ?x_Re ?sa_Re ?ga_Re ?gg_Re ?ex_Re ?ty_Re ?kc_Re ?hd_Re ?ic_Re ?ss_Re ?ti_Re ?vb_Re ?l_Re_init ?d_Re_init ?k_Re_init
      (case g_Re => k_is)
      (case na_Re_why => k_is)
      (case i_Re => k_is)
      (case x_Re => k_is)
      (case sa_Re => k_is)
      (case ga_Re => k_is)
      (case gg_Re => k_is)
      (case ex_Re => k_is)
      (case ty_Re => k_is)
      (case kc_Re => k_is)
      (case hd_Re => k_is)
      (case ic_Re => k_is)
      (case ss_Re => first | rfl | k_is)
      (case ti_Re => k_is)
      (case vb_Re => decide +kernel)
      (case l_Re_init => k_is)
      (case d_Re_init => k_is)
      (case k_Re_init => k_is)
    refine' Eh.cut_in KX (P := fun K => Eh.PG_De K mg) ?p_De (fun Q_De => ?_)
    case p_De =>
      refine' Eh.grp_De KX G ?g_De ?na_De_state ?i_De ?pg_De ?hd_De ?po_De ?sa_De ?mk_De ?fi_De ?kc_De ?l_De_init ?d_De_init ?k_De_init ?a_De_look_up ?n_De_look_up ?l_De_look_up ?d_De_look_up ?k_De_look_up ?a_De_offer ?n_De_offer ?l_De_offer ?d_De_offer ?k_De_offer ?a_De_look_closed ?n_De_look_closed ?l_De_look_closed ?d_De_look_closed ?k_De_look_closed ?a_De_look_entries ?n_De_look_entries ?l_De_look_entries ?d_De_look_entries ?k_De_look_entries ?a_De_clear ?n_De_clear ?l_De_clear ?d_De_clear ?k_De_clear ?a_De_put_rules ?n_De_put_rules ?l_De_put_rules ?d_De_put_rules ?k_De_put_rules ?a_De_enter ?n_De_enter ?l_De_enter ?d_De_enter ?k_De_enter ?a_De_want ?n_De_want ?l_De_want ?d_De_want ?k_De_want ?a_De_bring ?n_De_bring ?l_De_bring ?d_De_bring ?k_De_bring ?a_De_accept ?n_De_accept ?l_De_accept ?d_De_accept ?k_De_accept ?a_De_decline ?n_De_decline ?l_De_decline ?d_De_decline ?k_De_decline ?a_De_drop ?n_De_drop ?l_De_drop ?d_De_drop ?k_De_drop ?a_De_transfer ?n_De_transfer ?l_De_transfer ?d_De_transfer ?k_De_transfer ?a_De_pay ?n_De_pay ?l_De_pay ?d_De_pay ?k_De_pay ?a_De_payout ?n_De_payout ?l_De_payout ?d_De_payout ?k_De_payout ?a_De_night ?n_De_night ?l_De_night ?d_De_night ?k_De_night ?a_De_close ?n_De_close ?l_De_close ?d_De_close ?k_De_close ?a_De_school_told ?n_De_school_told ?l_De_school_told ?d_De_school_told ?k_De_school_told ?a_De_offers_told ?n_De_offers_told ?l_De_offers_told ?d_De_offers_told ?k_De_offers_told ?a_De_money ?n_De_money ?l_De_money ?d_De_money ?k_De_money ?a_De_counts ?n_De_counts ?l_De_counts ?d_De_counts ?k_De_counts
      (case g_De => k_is)
      (case na_De_state => k_is)
      (case i_De => k_is)
      (case pg_De => k_is)
      (case hd_De => k_is)
      (case po_De => k_is)
      (case sa_De => k_is)
      (case mk_De => k_is)
      (case fi_De => k_is)
      (case kc_De => k_is)
      (case l_De_init => k_is)
      (case d_De_init => k_is)
      (case k_De_init => k_is)
      (case a_De_look_up => k_is)
      (case n_De_look_up => k_is)
      (case l_De_look_up => k_is)
      (case d_De_look_up => k_is)
      (case k_De_look_up => k_is)
      (case a_De_offer => k_is)
      (case n_De_offer => k_is)
      (case l_De_offer => k_is)
      (case d_De_offer => k_is)
      (case k_De_offer => k_is)
      (case a_De_look_closed => k_is)
      (case n_De_look_closed => k_is)
      (case l_De_look_closed => k_is)
      (case d_De_look_closed => k_is)
      (case k_De_look_closed => k_is)
      (case a_De_look_entries => k_is)
      (case n_De_look_entries => k_is)
      (case l_De_look_entries => k_is)
      (case d_De_look_entries => k_is)
      (case k_De_look_entries => k_is)
      (case a_De_clear => k_is)
      (case n_De_clear => k_is)
      (case l_De_clear => k_is)
      (case d_De_clear => k_is)
      (case k_De_clear => k_is)
      (case a_De_put_rules => k_is)
      (case n_De_put_rules => k_is)
      (case l_De_put_rules => k_is)
      (case d_De_put_rules => k_is)
      (case k_De_put_rules => k_is)
      (case a_De_enter => k_is)
      (case n_De_enter => k_is)
      (case l_De_enter => k_is)
      (case d_De_enter => k_is)
      (case k_De_enter => k_is)
      (case a_De_want => k_is)
      (case n_De_want => k_is)
      (case l_De_want => k_is)
      (case d_De_want => k_is)
      (case k_De_want => k_is)
      (case a_De_bring => k_is)
      (case n_De_bring => k_is)
      (case l_De_bring => k_is)
      (case d_De_bring => k_is)
      (case k_De_bring => k_is)
      (case a_De_accept => k_is)
      (case n_De_accept => k_is)
      (case l_De_accept => k_is)
      (case d_De_accept => k_is)
      (case k_De_accept => k_is)
      (case a_De_decline => k_is)
      (case n_De_decline => k_is)
      (case l_De_decline => k_is)
      (case d_De_decline => k_is)
      (case k_De_decline => k_is)
      (case a_De_drop => k_is)
      (case n_De_drop => k_is)
      (case l_De_drop => k_is)
      (case d_De_drop => k_is)
      (case k_De_drop => k_is)
      (case a_De_transfer => k_is)
      (case n_De_transfer => k_is)
      (case l_De_transfer => k_is)
      (case d_De_transfer => k_is)
      (case k_De_transfer => k_is)
      (case a_De_pay => k_is)
      (case n_De_pay => k_is)
      (case l_De_pay => k_is)
      (case d_De_pay => k_is)
      (case k_De_pay => k_is)
      (case a_De_payout => k_is)
      (case n_De_payout => k_is)
      (case l_De_payout => k_is)
      (case d_De_payout => k_is)
      (case k_De_payout => k_is)
      (case a_De_night => k_is)
      (case n_De_night => k_is)
      (case l_De_night => k_is)
      (case d_De_night => k_is)
      (case k_De_night => k_is)
      (case a_De_close => k_is)
      (case n_De_close => k_is)
      (case l_De_close => k_is)
      (case d_De_close => k_is)
      (case k_De_close => k_is)
      (case a_De_school_told => k_is)
      (case n_De_school_told => k_is)
      (case l_De_school_told => k_is)
      (case d_De_school_told => k_is)
      (case k_De_school_told => k_is)
      (case a_De_offers_told => k_is)
      (case n_De_offers_told => k_is)
      (case l_De_offers_told => k_is)
      (case d_De_offers_told => k_is)
      (case k_De_offers_told => k_is)
      (case a_De_money => k_is)
      (case n_De_money => k_is)
      (case l_De_money => k_is)
      (case d_De_money => k_is)
      (case k_De_money => k_is)
      (case a_De_counts => k_is)
      (case n_De_counts => k_is)
      (case l_De_counts => k_is)
      (case d_De_counts => k_is)
      (case k_De_counts => k_is)
    refine' Eh.cut_in KX (P := fun K => Eh.PG_Cr K mg) ?p_Cr (fun Q_Cr => ?_)
    case p_Cr =>
      refine' Eh.grp_Cr KX G ?g_Cr ?na_Cr_calls ?na_Cr_at ?i_Cr ?pg_Cr ?hd_Cr ?po_Cr ?sa_Cr ?mk_Cr ?fi_Cr ?kc_Cr ?l_Cr_init ?d_Cr_init ?k_Cr_init ?a_Cr_is_done ?n_Cr_is_done ?l_Cr_is_done ?d_Cr_is_done ?k_Cr_is_done ?a_Cr_next_some ?n_Cr_next_some ?l_Cr_next_some ?d_Cr_next_some ?k_Cr_next_some
      (case g_Cr => k_is)
      (case na_Cr_calls => k_is)
      (case na_Cr_at => k_is)
      (case i_Cr => k_is)
      (case pg_Cr => k_is)
      (case hd_Cr => k_is)
      (case po_Cr => k_is)
      (case sa_Cr => k_is)
      (case mk_Cr => k_is)
      (case fi_Cr => k_is)
      (case kc_Cr => k_is)
      (case l_Cr_init => k_is)
      (case d_Cr_init => k_is)
      (case k_Cr_init => k_is)
      (case a_Cr_is_done => k_is)
      (case n_Cr_is_done => k_is)
      (case l_Cr_is_done => k_is)
      (case d_Cr_is_done => k_is)
      (case k_Cr_is_done => k_is)
      (case a_Cr_next_some => k_is)
      (case n_Cr_next_some => k_is)
      (case l_Cr_next_some => k_is)
      (case d_Cr_next_some => k_is)
      (case k_Cr_next_some => k_is)
    refine' Eh.cut_in KX (P := fun K => Eh.PG_f_words_of K mg) ?p_f_words_of (fun Q_f_words_of => ?_)
    case p_f_words_of =>
      refine' Eh.grp_f_words_of KX G ?a_f_words_of ?l_f_words_of ?d_f_words_of ?k_f_words_of
      (case a_f_words_of => k_is)
      (case l_f_words_of => k_is)
      (case d_f_words_of => k_is)
      (case k_f_words_of => k_is)
    refine' Eh.cut_in KX (P := fun K => Eh.PG_f_rows_of K mg) ?p_f_rows_of (fun Q_f_rows_of => ?_)
    case p_f_rows_of =>
      refine' Eh.grp_f_rows_of KX G ?a_f_rows_of ?l_f_rows_of ?d_f_rows_of ?k_f_rows_of
      (case a_f_rows_of => k_is)
      (case l_f_rows_of => k_is)
      (case d_f_rows_of => k_is)
      (case k_f_rows_of => k_is)
    refine' Eh.cut_in KX (P := fun K => Eh.PG_f_number_of K mg) ?p_f_number_of (fun Q_f_number_of => ?_)
    case p_f_number_of =>
      refine' Eh.grp_f_number_of KX G ?a_f_number_of ?l_f_number_of ?d_f_number_of ?k_f_number_of
      (case a_f_number_of => k_is)
      (case l_f_number_of => k_is)
      (case d_f_number_of => k_is)
      (case k_f_number_of => k_is)
    refine' Eh.cut_in KX (P := fun K => Eh.PG_f_is_word K mg) ?p_f_is_word (fun Q_f_is_word => ?_)
    case p_f_is_word =>
      refine' Eh.grp_f_is_word KX G ?a_f_is_word ?l_f_is_word ?d_f_is_word ?k_f_is_word
      (case a_f_is_word => k_is)
      (case l_f_is_word => k_is)
      (case d_f_is_word => k_is)
      (case k_f_is_word => k_is)
    refine' Eh.cut_in KX (P := fun K => Eh.PG_f_bounds_of K mg) ?p_f_bounds_of (fun Q_f_bounds_of => ?_)
    case p_f_bounds_of =>
      refine' Eh.grp_f_bounds_of KX G ?a_f_bounds_of ?l_f_bounds_of ?d_f_bounds_of ?k_f_bounds_of
      (case a_f_bounds_of => k_is)
      (case l_f_bounds_of => k_is)
      (case d_f_bounds_of => k_is)
      (case k_f_bounds_of => k_is)
    refine' Eh.cut_in KX (P := fun K => Eh.PG_f_are_pairs K mg) ?p_f_are_pairs (fun Q_f_are_pairs => ?_)
    case p_f_are_pairs =>
      refine' Eh.grp_f_are_pairs KX G ?a_f_are_pairs ?l_f_are_pairs ?d_f_are_pairs ?k_f_are_pairs
      (case a_f_are_pairs => k_is)
      (case l_f_are_pairs => k_is)
      (case d_f_are_pairs => k_is)
      (case k_f_are_pairs => k_is)
    refine' Eh.cut_in KX (P := fun K => Eh.PG_f_are_right K mg) ?p_f_are_right (fun Q_f_are_right => ?_)
    case p_f_are_right =>
      refine' Eh.grp_f_are_right KX G ?a_f_are_right ?l_f_are_right ?d_f_are_right ?k_f_are_right
      (case a_f_are_right => k_is)
      (case l_f_are_right => k_is)
      (case d_f_are_right => k_is)
      (case k_f_are_right => k_is)
    refine' Eh.cut_in KX (P := fun K => Eh.PG_f_put_row K mg) ?p_f_put_row (fun Q_f_put_row => ?_)
    case p_f_put_row =>
      refine' Eh.grp_f_put_row KX G ?a_f_put_row ?l_f_put_row ?d_f_put_row ?k_f_put_row
      (case a_f_put_row => k_is)
      (case l_f_put_row => k_is)
      (case d_f_put_row => k_is)
      (case k_f_put_row => k_is)
    refine' Eh.cut_in KX (P := fun K => Eh.PG_f_rules_of K mg) ?p_f_rules_of (fun Q_f_rules_of => ?_)
    case p_f_rules_of =>
      refine' Eh.grp_f_rules_of KX G ?a_f_rules_of ?l_f_rules_of ?d_f_rules_of ?k_f_rules_of
      (case a_f_rules_of => k_is)
      (case l_f_rules_of => k_is)
      (case d_f_rules_of => k_is)
      (case k_f_rules_of => k_is)
    refine' Eh.cut_in KX (P := fun K => Eh.PG_f_refuse_if K mg) ?p_f_refuse_if (fun Q_f_refuse_if => ?_)
    case p_f_refuse_if =>
      refine' Eh.grp_f_refuse_if KX G ?a_f_refuse_if ?l_f_refuse_if ?d_f_refuse_if ?k_f_refuse_if
      (case a_f_refuse_if => k_is)
      (case l_f_refuse_if => k_is)
      (case d_f_refuse_if => k_is)
      (case k_f_refuse_if => k_is)
    refine' Eh.cut_in KX (P := fun K => Eh.PG_f_with_rows K mg) ?p_f_with_rows (fun Q_f_with_rows => ?_)
    case p_f_with_rows =>
      refine' Eh.grp_f_with_rows KX G ?a_f_with_rows ?l_f_with_rows ?d_f_with_rows ?k_f_with_rows
      (case a_f_with_rows => k_is)
      (case l_f_with_rows => k_is)
      (case d_f_with_rows => k_is)
      (case k_f_with_rows => k_is)
    refine' Eh.cut_in KX (P := fun K => Eh.PG_f_first_told K mg) ?p_f_first_told (fun Q_f_first_told => ?_)
    case p_f_first_told =>
      refine' Eh.grp_f_first_told KX G ?a_f_first_told ?l_f_first_told ?d_f_first_told ?k_f_first_told
      (case a_f_first_told => k_is)
      (case l_f_first_told => k_is)
      (case d_f_first_told => k_is)
      (case k_f_first_told => k_is)
    refine' Eh.cut_in KX (P := fun K => Eh.PG_f_call_told K mg) ?p_f_call_told (fun Q_f_call_told => ?_)
    case p_f_call_told =>
      refine' Eh.grp_f_call_told KX G ?a_f_call_told ?l_f_call_told ?d_f_call_told ?k_f_call_told
      (case a_f_call_told => k_is)
      (case l_f_call_told => k_is)
      (case d_f_call_told => k_is)
      (case k_f_call_told => k_is)
    refine' Eh.cut_in KX (P := fun K => Eh.PG_f_answer_of K mg) ?p_f_answer_of (fun Q_f_answer_of => ?_)
    case p_f_answer_of =>
      refine' Eh.grp_f_answer_of KX G ?a_f_answer_of ?l_f_answer_of ?d_f_answer_of ?k_f_answer_of
      (case a_f_answer_of => k_is)
      (case l_f_answer_of => k_is)
      (case d_f_answer_of => k_is)
      (case k_f_answer_of => k_is)
    refine' Eh.cut_in KX (P := fun K => Eh.PG_f_answers K mg) ?p_f_answers (fun Q_f_answers => ?_)
    case p_f_answers =>
      refine' Eh.grp_f_answers KX G ?a_f_answers ?l_f_answers ?d_f_answers ?k_f_answers
      (case a_f_answers => k_is)
      (case l_f_answers => k_is)
      (case d_f_answers => k_is)
      (case k_f_answers => k_is)
    obtain ⟨A, T⟩ := Eh.all_tx Q_consts Q_ORDER Q_NUMBERS Q_ROWS Q_Wr Q_Ru Q_Sc Q_Of Q_St Q_Re Q_De Q_Cr Q_f_words_of Q_f_rows_of Q_f_number_of Q_f_is_word Q_f_bounds_of Q_f_are_pairs Q_f_are_right Q_f_put_row Q_f_rules_of Q_f_refuse_if Q_f_with_rows Q_f_first_told Q_f_call_told Q_f_answer_of Q_f_answers
    have e := hmg.symm.trans T.g_f_answers
    cases e
    obtain ⟨fd, b, F⟩ := Eh.end_answers (P := PySem.Challenge.rw_entryhouse_s01_answers.prog) (w := w) T
    exact ⟨fd, b, fun base _ _ => F base⟩
  case S =>
    intro K H xs a hO hwi hask hx
    cases hx with
    | cons h1 h2 =>
      cases h2
      cases h1 with
      | lst hs ha =>
        have e := L2.ints_dw a.1 _ ha
        subst e
        exact ⟨_, a.1, rfl, hs, hask, fun p H' _ _ hp => .lst (L2.SqL.of hp) (L2.dw_ints _)⟩

