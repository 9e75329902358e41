import PyProof.Rows.All
import Wide.All
import OpenK.AllK
import Wide.FinOn
import HandS.ForMost
import HandS.TupAny
import HandS.Style
import KE.GoesEnum
import HandS.List
import PySem.Challenge.RW_litmuscore_k54_whole_lines_are_obtained
import HandS.MakeKwOnly
import HandS.TupMul
set_option Elab.async false
set_option linter.all false
/-! The mirror: what the program computes, over plain data. Words are told by their length alone. -/
namespace LK
inductive S3 where | S | E | M
  deriving DecidableEq
inductive MK where
  | getS | getM
  | giveUp (w : Nat) (d : Bool)
  | confirm
  | recall (keep : Bool)
  | returned (w : Option Nat) (d : Bool)
  | inval | invald
  | grant (st : S3) (w : Nat)
  | received
  deriving DecidableEq
structure Msg where
  c : Nat
  l : Nat
  k : MK
structure Cfg where
  lw : Nat
  sets : Nat
  ways : Nat
  reqs : Nat
  alone : Bool
structure Cache where
  lines : List (Nat × S3 × Nat)
  req : List (Nat × Bool)
  leav : List (Nat × Option Nat × Bool)
structure Serv where
  c : Nat
  ex : Bool
  wait : List Nat
  rcl : Bool
  w : Option Nat
  gr : Bool
structure Home where
  owner : Option Nat
  sh : List Nat
  sv : Option Serv
structure Sys where
  caches : List Cache
  homes : List Home
  mem : Nat
  net : List Msg
def MK.toCache : MK → Bool
  | .inval | .recall _ | .grant _ _ | .confirm => true
  | _ => false
def MK.waits : MK → Bool
  | .getS | .getM | .giveUp _ _ => true
  | _ => false
section
variable {β : Type}
def get (es : List (Nat × β)) (l : Nat) : Option β := (es.find? (fun e => e.1 == l)).map (·.2)
def wo (es : List (Nat × β)) (l : Nat) : List (Nat × β) := es.filter (fun e => e.1 != l)
def we (es : List (Nat × β)) (l : Nat) (b : β) : List (Nat × β) := es.map (fun e => if e.1 == l then (l, b) else e)
end
def inSet (g : Cfg) (l x : Nat) : Bool := x % g.sets == l % g.sets
def occ (g : Cfg) (c : Cache) (l : Nat) : Nat :=
  let present := (c.lines.filter (fun e => inSet g l e.1)).map (·.1)
  present.length + (c.req.filter (fun e => inSet g l e.1 && !present.contains e.1)).length
def requestLine (g : Cfg) (c : Cache) (k l : Nat) (e : Bool) : Option (Cache × List Msg) :=
  if (get c.req l).isSome || (get c.leav l).isSome then none
  else if g.reqs ≤ c.req.length then none
  else if (get c.lines l).isNone && decide (g.ways ≤ occ g c l) then none
  else if (match get c.lines l with | none => false | some en => !(e && en.1 == .S)) = true then none
  else some (⟨c.lines, c.req ++ [(l, e)], c.leav⟩, [⟨k, l, if e then .getM else .getS⟩])
def giveUp (c : Cache) (k l : Nat) : Option (Cache × List Msg) :=
  match get c.lines l with
  | none => none
  | some (st, w) =>
    if (get c.req l).isSome then none
    else if st = .S then some (⟨wo c.lines l, c.req, c.leav⟩, [])
    else some (⟨wo c.lines l, c.req, c.leav ++ [(l, some w, st == .M)]⟩, [⟨k, l, .giveUp w (st == .M)⟩])
def afterRecall (c : Cache) (k l : Nat) (keep : Bool) : Option (Cache × List Msg) :=
  match get c.lines l with
  | none =>
    match get c.leav l with
    | none => none
    | some (w, d) => some (⟨c.lines, c.req, we c.leav l (none, d)⟩, [⟨k, l, .returned w d⟩])
  | some (st, w) => some (⟨if keep then we c.lines l (.S, w) else wo c.lines l, c.req, c.leav⟩, [⟨k, l, .returned (some w) (st == .M)⟩])
def cacheRecv (c : Cache) (m : Msg) : Option (Cache × List Msg) :=
  match m.k with
  | .recall keep => afterRecall c m.c m.l keep
  | .inval => some (⟨wo c.lines m.l, c.req, c.leav⟩, [⟨m.c, m.l, .invald⟩])
  | .grant st w => some (⟨wo c.lines m.l ++ [(m.l, st, w)], wo c.req m.l, c.leav⟩, [⟨m.c, m.l, .received⟩])
  | .confirm => some (⟨c.lines, c.req, wo c.leav m.l⟩, [])
  | _ => none
/-- the rule of grants, to a home that serves s -/
def grantIf (g : Cfg) (owner : Option Nat) (sh : List Nat) (s : Serv) (l : Nat) : Home × List Msg :=
  if s.gr || !s.wait.isEmpty || s.rcl then (⟨owner, sh, some s⟩, [])
  else match s.w with
    | none => (⟨owner, sh, some s⟩, [])
    | some w =>
      if s.ex then (⟨some s.c, [], some { s with gr := true }⟩, [⟨s.c, l, .grant .M w⟩])
      else if g.alone && sh.isEmpty then (⟨some s.c, sh, some { s with gr := true }⟩, [⟨s.c, l, .grant .E w⟩])
      else (⟨owner, if sh.contains s.c then sh else sh ++ [s.c], some { s with gr := true }⟩, [⟨s.c, l, .grant .S w⟩])
def homeReq (g : Cfg) (h : Home) (w : Nat) (k l : Nat) (e : Bool) : Home × List Msg :=
  match h.owner with
  | some o => (⟨some o, h.sh, some ⟨k, e, [], true, none, false⟩⟩, [⟨o, l, .recall (!e)⟩])
  | none =>
    let aw := if e then h.sh.filter (fun x => x != k) else []
    let r := grantIf g none h.sh ⟨k, e, aw, false, some w, false⟩ l
    (r.1, aw.map (fun x => ⟨x, l, .inval⟩) ++ r.2)
def homeRecv (g : Cfg) (h : Home) (w : Nat) (m : Msg) : Option (Home × Nat × List Msg) :=
  match m.k with
  | .giveUp mw d => some (⟨if h.owner = some m.c then none else h.owner, h.sh, none⟩, if h.owner = some m.c then (if d then mw else w) else w, [⟨m.c, m.l, .confirm⟩])
  | .received => some (⟨h.owner, h.sh, none⟩, w, [])
  | .invald =>
    match h.sv with
    | none => none
    | some s =>
      let r := grantIf g h.owner (h.sh.filter (fun x => x != m.c)) { s with wait := s.wait.filter (fun x => x != m.c) } m.l
      some (r.1, w, r.2)
  | .returned mw d =>
    match h.sv, mw with
    | some s, some mw =>
      let r := grantIf g none (if s.ex then [] else [m.c]) { s with rcl := false, w := some mw } m.l
      some (r.1, if d then mw else w, r.2)
    | _, _ => none
  | .getS => let r := homeReq g h w m.c m.l false; some (r.1, w, r.2)
  | .getM => let r := homeReq g h w m.c m.l true; some (r.1, w, r.2)
  | _ => none
def canRecv (h : Home) (k : MK) : Bool := h.sv.isNone || !k.waits
def Sys.can (s : Sys) (m : Msg) : Bool := m.k.toCache || (match s.homes[m.l]? with | some h => canRecv h m.k | none => false)
def wordsAt (g : Cfg) (mem l : Nat) : Nat := min (l * g.lw + g.lw) mem - min (l * g.lw) mem
def delivered (g : Cfg) (s : Sys) (i : Nat) : Option Sys :=
  match s.net[i]? with
  | none => none
  | some m =>
    let rest := s.net.take i ++ s.net.drop (i + 1)
    if m.k.toCache then
      match s.caches[m.c]? with
      | none => none
      | some c =>
        match cacheRecv c m with
        | none => none
        | some r => some ⟨s.caches.set m.c r.1, s.homes, s.mem, rest ++ r.2⟩
    else
      match s.homes[m.l]? with
      | none => none
      | some h =>
        match homeRecv g h (wordsAt g s.mem m.l) m with
        | none => none
        | some r => some ⟨s.caches, s.homes.set m.l r.1, min (m.l * g.lw) s.mem + r.2.1 + (s.mem - min (m.l * g.lw + g.lw) s.mem), rest ++ r.2.2⟩
/-- the indices that can be delivered -/
def delivIdx (s : Sys) : List Nat := (List.range s.net.length).filter (fun i => match s.net[i]? with | some m => s.can m | none => false)
inductive Act where
  | deliver (i : Nat)
  | evict (k l : Nat)
  | request (k l : Nat) (e : Bool)
/-- a request or a giving up: none if it is not possible -/
def act2 (g : Cfg) (s : Sys) (k l : Nat) (e : Option Bool) : Option Sys :=
  if l < s.homes.length then
    match s.caches[k]? with
    | none => none
    | some c =>
      match (match e with | some e => requestLine g c k l e | none => giveUp c k l) with
      | none => none
      | some r => some ⟨s.caches.set k r.1, s.homes, s.mem, s.net ++ r.2⟩
  else none
def start (n mem : Nat) (g : Cfg) : Sys := ⟨List.replicate n ⟨[], [], []⟩, List.replicate ((mem + g.lw - 1) / g.lw) ⟨none, [], none⟩, mem, []⟩
end LK
/-! One line of the memory system, seen from its home and from each core; what always holds of it. -/
namespace LK
structure LV where
  ow : Option Nat
  sh : List Nat
  sv : Option Serv
  P : Nat → Option (S3 × Nat)
  R : Nat → Option Bool
  L : Nat → Option (Option Nat × Bool)
  q : Nat → Option MK
  v : Nat → Option MK
  h : Nat → Option MK
def getK (e : Bool) : MK := if e then .getM else .getS
def isGr : Option MK → Bool
  | some (.grant _ _) => true
  | _ => false
def isRet : Option MK → Bool
  | some (.returned _ _) => true
  | _ => false
def hasW : Option (Option Nat × Bool) → Bool
  | some (some _, _) => true
  | _ => false
def ungr : Option Serv → Nat → Bool
  | some s, k => !s.gr && s.c == k
  | none, _ => false
structure LInv (n wl : Nat) (a : LV) : Prop where
  p0 : ∀ k, a.sv = none → a.h k = none
  p1 : ∀ s, a.sv = some s → s.gr = true → s.wait = [] ∧ s.rcl = false
  p1a : ∀ s k, a.sv = some s → s.gr = true → k ≠ s.c → a.h k = none
  p1b : ∀ s, a.sv = some s → s.gr = true → a.h s.c = some .received ∨ isGr (a.h s.c) = true
  p2 : ∀ s, a.sv = some s → s.gr = false → s.rcl = true → s.wait = [] ∧ a.ow ≠ none ∧ a.ow ≠ some s.c
  p2a : ∀ s k, a.sv = some s → s.gr = false → s.rcl = true → a.ow ≠ some k → a.h k = none
  p2b : ∀ s k, a.sv = some s → s.gr = false → s.rcl = true → a.ow = some k → a.h k = some (.recall (!s.ex)) ∨ isRet (a.h k) = true
  p3 : ∀ s, a.sv = some s → s.gr = false → s.rcl = false → a.ow = none ∧ s.ex = true ∧ s.w = some wl ∧ s.wait ≠ [] ∧ s.wait.Nodup
  p3a : ∀ s k, a.sv = some s → s.gr = false → s.rcl = false → k ∈ s.wait → k ∈ a.sh ∧ k ≠ s.c ∧ (a.h k = some .inval ∨ a.h k = some .invald)
  p3b : ∀ s k, a.sv = some s → s.gr = false → s.rcl = false → k ∉ s.wait → a.h k = none
  p3c : ∀ s k, a.sv = some s → s.gr = false → s.rcl = false → k ∈ a.sh → k = s.c ∨ k ∈ s.wait
  r1 : ∀ k, a.R k = none → a.q k = none
  r2 : ∀ k, a.R k = none → isGr (a.h k) = false
  r3 : ∀ s, a.sv = some s → s.gr = false → a.R s.c = some s.ex ∧ a.q s.c = none
  r4 : ∀ k, isGr (a.h k) = true → a.q k = none
  r5 : ∀ k e, a.R k = some e → a.q k = none ∨ a.q k = some (getK e)
  r6 : ∀ k, a.R k ≠ none → a.q k ≠ none ∨ isGr (a.h k) = true ∨ ungr a.sv k = true
  r7 : ∀ k st w, a.R k = some true → a.h k = some (.grant st w) → st = .M
  rn : ∀ k, a.R k ≠ none → k < n
  lv : ∀ k, a.L k = none ↔ a.v k = none
  vw : ∀ k w d, a.v k = some (.giveUp w d) → w = wl
  lw : ∀ k w d, a.L k = some (some w, d) → w = wl
  hw : ∀ k st w, a.h k = some (.grant st w) → w = wl
  tw : ∀ k w d, a.h k = some (.returned w d) → w = some wl
  pw : ∀ k st w, a.P k = some (st, w) → w = wl
  shn : a.sh.Nodup
  shl : ∀ k, k ∈ a.sh → k < n
  own : ∀ k, a.ow = some k → k < n ∧ a.sh = []
  pe : ∀ k st w, a.P k = some (st, w) → st ≠ .S → a.ow = some k
  ps : ∀ k w, a.P k = some (.S, w) → k ∈ a.sh ∨ (a.ow = some k ∧ (isRet (a.h k) = true ∨ isGr (a.h k) = true))
  ox : ∀ k, a.ow = some k → a.P k ≠ none ∨ hasW (a.L k) = true ∨ isRet (a.h k) = true ∨ isGr (a.h k) = true
  pl : ∀ k, a.L k ≠ none → a.P k = none ∧ a.R k = none
  rp : ∀ k st w, a.R k ≠ none → a.P k = some (st, w) → st = .S
  cf : ∀ k, a.v k = some .confirm → a.ow ≠ some k
  gs : ∀ k w, a.h k = some (.grant .S w) → k ∈ a.sh
  ge : ∀ k st w, a.h k = some (.grant st w) → st ≠ .S → a.ow = some k
  ia : ∀ k, a.h k = some .invald → a.P k = none
  rt : ∀ k st w, isRet (a.h k) = true → a.P k = some (st, w) → st = .S
  re : ∀ k s, isRet (a.h k) = true → a.sv = some s → s.ex = true → a.P k = none
def up {β : Type} (f : Nat → β) (k : Nat) (x : β) : Nat → β := fun j => if j = k then x else f j
theorem up_same {β : Type} {f : Nat → β} {k : Nat} {x : β} : up f k x k = x := by simp [up]
theorem up_ne {β : Type} {f : Nat → β} {k j : Nat} {x : β} (h : j ≠ k) : up f k x j = f j := by simp [up, h]
section
variable {n wl : Nat} {a : LV}
/-- what a message of the home's tells of its phase -/
theorem LInv.at_recall {k : Nat} {keep : Bool} (I : LInv n wl a) (h : a.h k = some (.recall keep)) : ∃ s, a.sv = some s ∧ s.gr = false ∧ s.rcl = true ∧ a.ow = some k ∧ keep = !s.ex ∧ s.wait = [] ∧ k ≠ s.c ∧ a.sh = [] := by
  obtain ⟨p0, p1, p1a, p1b, p2, p2a, p2b, p3, p3a, p3b, p3c, r1, r2, r3, r4, r5, r6, r7, rn, lv, vw, lw, hw, tw, pw, shn, shl, own, pe, ps, ox, pl, rp, cf, gs, ge, ia, rt, re⟩ := I
  cases hs : a.sv with
  | none => grind
  | some s => refine ⟨s, rfl, ?_⟩; cases hg : s.gr <;> cases hr : s.rcl <;> grind [isGr, isRet]
theorem LInv.at_returned {k : Nat} {w : Option Nat} {d : Bool} (I : LInv n wl a) (h : a.h k = some (.returned w d)) : ∃ s, a.sv = some s ∧ s.gr = false ∧ s.rcl = true ∧ a.ow = some k ∧ s.wait = [] ∧ k ≠ s.c ∧ a.sh = [] := by
  obtain ⟨p0, p1, p1a, p1b, p2, p2a, p2b, p3, p3a, p3b, p3c, r1, r2, r3, r4, r5, r6, r7, rn, lv, vw, lw, hw, tw, pw, shn, shl, own, pe, ps, ox, pl, rp, cf, gs, ge, ia, rt, re⟩ := I
  cases hs : a.sv with
  | none => grind
  | some s => refine ⟨s, rfl, ?_⟩; cases hg : s.gr <;> cases hr : s.rcl <;> grind [isGr, isRet]
theorem LInv.at_inval {k : Nat} (I : LInv n wl a) (h : a.h k = some .inval ∨ a.h k = some .invald) : ∃ s, a.sv = some s ∧ s.gr = false ∧ s.rcl = false ∧ a.ow = none ∧ k ∈ s.wait ∧ k ≠ s.c ∧ k ∈ a.sh := by
  obtain ⟨p0, p1, p1a, p1b, p2, p2a, p2b, p3, p3a, p3b, p3c, r1, r2, r3, r4, r5, r6, r7, rn, lv, vw, lw, hw, tw, pw, shn, shl, own, pe, ps, ox, pl, rp, cf, gs, ge, ia, rt, re⟩ := I
  cases hs : a.sv with
  | none => grind
  | some s => refine ⟨s, rfl, ?_⟩; cases hg : s.gr <;> cases hr : s.rcl <;> grind [isGr, isRet]
theorem LInv.at_grant {k : Nat} {st : S3} {w : Nat} (I : LInv n wl a) (h : a.h k = some (.grant st w)) : ∃ s, a.sv = some s ∧ s.gr = true ∧ s.c = k ∧ a.R k ≠ none ∧ a.q k = none := by
  obtain ⟨p0, p1, p1a, p1b, p2, p2a, p2b, p3, p3a, p3b, p3c, r1, r2, r3, r4, r5, r6, r7, rn, lv, vw, lw, hw, tw, pw, shn, shl, own, pe, ps, ox, pl, rp, cf, gs, ge, ia, rt, re⟩ := I
  cases hs : a.sv with
  | none => grind
  | some s => refine ⟨s, rfl, ?_⟩; cases hg : s.gr <;> cases hr : s.rcl <;> grind [isGr, isRet]
theorem LInv.at_received {k : Nat} (I : LInv n wl a) (h : a.h k = some .received) : ∃ s, a.sv = some s ∧ s.gr = true ∧ s.c = k := by
  obtain ⟨p0, p1, p1a, p1b, p2, p2a, p2b, p3, p3a, p3b, p3c, r1, r2, r3, r4, r5, r6, r7, rn, lv, vw, lw, hw, tw, pw, shn, shl, own, pe, ps, ox, pl, rp, cf, gs, ge, ia, rt, re⟩ := I
  cases hs : a.sv with
  | none => grind
  | some s => refine ⟨s, rfl, ?_⟩; cases hg : s.gr <;> cases hr : s.rcl <;> grind [isGr, isRet]
end
end LK
set_option maxHeartbeats 1000000
namespace LK
section
variable {n wl : Nat} {a : LV}
theorem t_request {k : Nat} {e : Bool} (I : LInv n wl a) (hk : k < n) (hR : a.R k = none) (hL : a.L k = none) (hP : ∀ st w, a.P k = some (st, w) → st = .S) :
    LInv n wl { a with R := up a.R k (some e), q := up a.q k (some (getK e)) } := by
  have J := I
  obtain ⟨p0, p1, p1a, p1b, p2, p2a, p2b, p3, p3a, p3b, p3c, r1, r2, r3, r4, r5, r6, r7, rn, lv, vw, lw, hw, tw, pw, shn, shl, own, pe, ps, ox, pl, rp, cf, gs, ge, ia, rt, re⟩ := I
  constructor
  case p0 =>
    first
    | exact p0
    | skip
      intro j
      by_cases hj : j = k
      · subst hj; (try simp only [up_same]) <;> grind [isGr, isRet, hasW, ungr, getK]
      · try simp only [up_ne hj]
        first | exact p0 j | (grind [isGr, isRet, hasW, ungr, getK])
  case p1 =>
    first
    | exact p1
    | skip
      intro s
      try simp only [up]
      cases hg : s.gr <;> cases hr : s.rcl <;> grind [isGr, isRet, hasW, ungr, getK]
  case p1a =>
    first
    | exact p1a
    | skip
      intro s j
      by_cases hj : j = k
      · subst hj; (try simp only [up_same]) <;> cases hg : s.gr <;> cases hr : s.rcl <;> grind [isGr, isRet, hasW, ungr, getK]
      · try simp only [up_ne hj]
        first | exact p1a s j | (cases hg : s.gr <;> cases hr : s.rcl <;> grind [isGr, isRet, hasW, ungr, getK])
  case p1b =>
    first
    | exact p1b
    | skip
      intro s
      try simp only [up]
      cases hg : s.gr <;> cases hr : s.rcl <;> grind [isGr, isRet, hasW, ungr, getK]
  case p2 =>
    first
    | exact p2
    | skip
      intro s
      try simp only [up]
      cases hg : s.gr <;> cases hr : s.rcl <;> grind [isGr, isRet, hasW, ungr, getK]
  case p2a =>
    first
    | exact p2a
    | skip
      intro s j
      by_cases hj : j = k
      · subst hj; (try simp only [up_same]) <;> cases hg : s.gr <;> cases hr : s.rcl <;> grind [isGr, isRet, hasW, ungr, getK]
      · try simp only [up_ne hj]
        first | exact p2a s j | (cases hg : s.gr <;> cases hr : s.rcl <;> grind [isGr, isRet, hasW, ungr, getK])
  case p2b =>
    first
    | exact p2b
    | skip
      intro s j
      by_cases hj : j = k
      · subst hj; (try simp only [up_same]) <;> cases hg : s.gr <;> cases hr : s.rcl <;> grind [isGr, isRet, hasW, ungr, getK]
      · try simp only [up_ne hj]
        first | exact p2b s j | (cases hg : s.gr <;> cases hr : s.rcl <;> grind [isGr, isRet, hasW, ungr, getK])
  case p3 =>
    first
    | exact p3
    | skip
      intro s
      try simp only [up]
      cases hg : s.gr <;> cases hr : s.rcl <;> grind [isGr, isRet, hasW, ungr, getK]
  case p3a =>
    first
    | exact p3a
    | skip
      intro s j
      by_cases hj : j = k
      · subst hj; (try simp only [up_same]) <;> cases hg : s.gr <;> cases hr : s.rcl <;> grind [isGr, isRet, hasW, ungr, getK]
      · try simp only [up_ne hj]
        first | exact p3a s j | (cases hg : s.gr <;> cases hr : s.rcl <;> grind [isGr, isRet, hasW, ungr, getK])
  case p3b =>
    first
    | exact p3b
    | skip
      intro s j
      by_cases hj : j = k
      · subst hj; (try simp only [up_same]) <;> cases hg : s.gr <;> cases hr : s.rcl <;> grind [isGr, isRet, hasW, ungr, getK]
      · try simp only [up_ne hj]
        first | exact p3b s j | (cases hg : s.gr <;> cases hr : s.rcl <;> grind [isGr, isRet, hasW, ungr, getK])
  case p3c =>
    first
    | exact p3c
    | skip
      intro s j
      by_cases hj : j = k
      · subst hj; (try simp only [up_same]) <;> cases hg : s.gr <;> cases hr : s.rcl <;> grind [isGr, isRet, hasW, ungr, getK]
      · try simp only [up_ne hj]
        first | exact p3c s j | (cases hg : s.gr <;> cases hr : s.rcl <;> grind [isGr, isRet, hasW, ungr, getK])
  case r1 =>
    first
    | exact r1
    | skip
      intro j
      by_cases hj : j = k
      · subst hj; (try simp only [up_same]) <;> grind [isGr, isRet, hasW, ungr, getK]
      · try simp only [up_ne hj]
        first | exact r1 j | (grind [isGr, isRet, hasW, ungr, getK])
  case r2 =>
    first
    | exact r2
    | skip
      intro j
      by_cases hj : j = k
      · subst hj; (try simp only [up_same]) <;> grind [isGr, isRet, hasW, ungr, getK]
      · try simp only [up_ne hj]
        first | exact r2 j | (grind [isGr, isRet, hasW, ungr, getK])
  case r3 =>
    first
    | exact r3
    | skip
      intro s
      try simp only [up]
      cases hg : s.gr <;> cases hr : s.rcl <;> grind [isGr, isRet, hasW, ungr, getK]
  case r4 =>
    first
    | exact r4
    | skip
      intro j
      by_cases hj : j = k
      · subst hj; (try simp only [up_same]) <;> grind [isGr, isRet, hasW, ungr, getK]
      · try simp only [up_ne hj]
        first | exact r4 j | (grind [isGr, isRet, hasW, ungr, getK])
  case r5 =>
    first
    | exact r5
    | skip
      intro j e
      by_cases hj : j = k
      · subst hj; (try simp only [up_same]) <;> grind [isGr, isRet, hasW, ungr, getK]
      · try simp only [up_ne hj]
        first | exact r5 j e | (grind [isGr, isRet, hasW, ungr, getK])
  case r6 =>
    first
    | exact r6
    | skip
      intro j
      by_cases hj : j = k
      · subst hj; (try simp only [up_same]) <;> grind [isGr, isRet, hasW, ungr, getK]
      · try simp only [up_ne hj]
        first | exact r6 j | (grind [isGr, isRet, hasW, ungr, getK])
  case r7 =>
    first
    | exact r7
    | skip
      intro j x y
      by_cases hj : j = k
      · subst hj; (try simp only [up_same]) <;> grind [isGr, isRet, hasW, ungr, getK]
      · try simp only [up_ne hj]
        first | exact r7 j x y | (grind [isGr, isRet, hasW, ungr, getK])
  case rn =>
    first
    | exact rn
    | skip
      intro j
      by_cases hj : j = k
      · subst hj; (try simp only [up_same]) <;> grind [isGr, isRet, hasW, ungr, getK]
      · try simp only [up_ne hj]
        first | exact rn j | (grind [isGr, isRet, hasW, ungr, getK])
  case lv =>
    first
    | exact lv
    | skip
      intro j
      by_cases hj : j = k
      · subst hj; (try simp only [up_same]) <;> grind [isGr, isRet, hasW, ungr, getK]
      · try simp only [up_ne hj]
        first | exact lv j | (grind [isGr, isRet, hasW, ungr, getK])
  case vw =>
    first
    | exact vw
    | skip
      intro j x y
      by_cases hj : j = k
      · subst hj; (try simp only [up_same]) <;> grind [isGr, isRet, hasW, ungr, getK]
      · try simp only [up_ne hj]
        first | exact vw j x y | (grind [isGr, isRet, hasW, ungr, getK])
  case lw =>
    first
    | exact lw
    | skip
      intro j x y
      by_cases hj : j = k
      · subst hj; (try simp only [up_same]) <;> grind [isGr, isRet, hasW, ungr, getK]
      · try simp only [up_ne hj]
        first | exact lw j x y | (grind [isGr, isRet, hasW, ungr, getK])
  case hw =>
    first
    | exact hw
    | skip
      intro j x y
      by_cases hj : j = k
      · subst hj; (try simp only [up_same]) <;> grind [isGr, isRet, hasW, ungr, getK]
      · try simp only [up_ne hj]
        first | exact hw j x y | (grind [isGr, isRet, hasW, ungr, getK])
  case tw =>
    first
    | exact tw
    | skip
      intro j x y
      by_cases hj : j = k
      · subst hj; (try simp only [up_same]) <;> grind [isGr, isRet, hasW, ungr, getK]
      · try simp only [up_ne hj]
        first | exact tw j x y | (grind [isGr, isRet, hasW, ungr, getK])
  case pw =>
    first
    | exact pw
    | skip
      intro j x y
      by_cases hj : j = k
      · subst hj; (try simp only [up_same]) <;> grind [isGr, isRet, hasW, ungr, getK]
      · try simp only [up_ne hj]
        first | exact pw j x y | (grind [isGr, isRet, hasW, ungr, getK])
  case shn =>
    first
    | exact shn
    | skip
      grind [isGr, isRet, hasW, ungr, getK]
  case shl =>
    first
    | exact shl
    | skip
      intro j
      by_cases hj : j = k
      · subst hj; (try simp only [up_same]) <;> grind [isGr, isRet, hasW, ungr, getK]
      · try simp only [up_ne hj]
        first | exact shl j | (grind [isGr, isRet, hasW, ungr, getK])
  case own =>
    first
    | exact own
    | skip
      intro j
      by_cases hj : j = k
      · subst hj; (try simp only [up_same]) <;> grind [isGr, isRet, hasW, ungr, getK]
      · try simp only [up_ne hj]
        first | exact own j | (grind [isGr, isRet, hasW, ungr, getK])
  case pe =>
    first
    | exact pe
    | skip
      intro j x y
      by_cases hj : j = k
      · subst hj; (try simp only [up_same]) <;> grind [isGr, isRet, hasW, ungr, getK]
      · try simp only [up_ne hj]
        first | exact pe j x y | (grind [isGr, isRet, hasW, ungr, getK])
  case ps =>
    first
    | exact ps
    | skip
      intro j x
      by_cases hj : j = k
      · subst hj; (try simp only [up_same]) <;> grind [isGr, isRet, hasW, ungr, getK]
      · try simp only [up_ne hj]
        first | exact ps j x | (grind [isGr, isRet, hasW, ungr, getK])
  case ox =>
    first
    | exact ox
    | skip
      intro j
      by_cases hj : j = k
      · subst hj; (try simp only [up_same]) <;> grind [isGr, isRet, hasW, ungr, getK]
      · try simp only [up_ne hj]
        first | exact ox j | (grind [isGr, isRet, hasW, ungr, getK])
  case pl =>
    first
    | exact pl
    | skip
      intro j
      by_cases hj : j = k
      · subst hj; (try simp only [up_same]) <;> grind [isGr, isRet, hasW, ungr, getK]
      · try simp only [up_ne hj]
        first | exact pl j | (grind [isGr, isRet, hasW, ungr, getK])
  case rp =>
    first
    | exact rp
    | skip
      intro j x y
      by_cases hj : j = k
      · subst hj; (try simp only [up_same]) <;> grind [isGr, isRet, hasW, ungr, getK]
      · try simp only [up_ne hj]
        first | exact rp j x y | (grind [isGr, isRet, hasW, ungr, getK])
  case cf =>
    first
    | exact cf
    | skip
      intro j
      by_cases hj : j = k
      · subst hj; (try simp only [up_same]) <;> grind [isGr, isRet, hasW, ungr, getK]
      · try simp only [up_ne hj]
        first | exact cf j | (grind [isGr, isRet, hasW, ungr, getK])
  case gs =>
    first
    | exact gs
    | skip
      intro j x
      by_cases hj : j = k
      · subst hj; (try simp only [up_same]) <;> grind [isGr, isRet, hasW, ungr, getK]
      · try simp only [up_ne hj]
        first | exact gs j x | (grind [isGr, isRet, hasW, ungr, getK])
  case ge =>
    first
    | exact ge
    | skip
      intro j x y
      by_cases hj : j = k
      · subst hj; (try simp only [up_same]) <;> grind [isGr, isRet, hasW, ungr, getK]
      · try simp only [up_ne hj]
        first | exact ge j x y | (grind [isGr, isRet, hasW, ungr, getK])
  case ia =>
    first
    | exact ia
    | skip
      intro j
      by_cases hj : j = k
      · subst hj; (try simp only [up_same]) <;> grind [isGr, isRet, hasW, ungr, getK]
      · try simp only [up_ne hj]
        first | exact ia j | (grind [isGr, isRet, hasW, ungr, getK])
  case rt =>
    first
    | exact rt
    | skip
      intro j x y
      by_cases hj : j = k
      · subst hj; (try simp only [up_same]) <;> grind [isGr, isRet, hasW, ungr, getK]
      · try simp only [up_ne hj]
        first | exact rt j x y | (grind [isGr, isRet, hasW, ungr, getK])
  case re =>
    first
    | exact re
    | skip
      intro j s
      by_cases hj : j = k
      · subst hj; (try simp only [up_same]) <;> cases hg : s.gr <;> cases hr : s.rcl <;> grind [isGr, isRet, hasW, ungr, getK]
      · try simp only [up_ne hj]
        first | exact re j s | (cases hg : s.gr <;> cases hr : s.rcl <;> grind [isGr, isRet, hasW, ungr, getK])
theorem t_dropS {k w : Nat} (I : LInv n wl a) (hP : a.P k = some (.S, w)) (hR : a.R k = none) :
    LInv n wl { a with P := up a.P k none } := by
  have J := I
  obtain ⟨p0, p1, p1a, p1b, p2, p2a, p2b, p3, p3a, p3b, p3c, r1, r2, r3, r4, r5, r6, r7, rn, lv, vw, lw, hw, tw, pw, shn, shl, own, pe, ps, ox, pl, rp, cf, gs, ge, ia, rt, re⟩ := I
  constructor
  case p0 =>
    first
    | exact p0
    | skip
      intro j
      by_cases hj : j = k
      · subst hj; (try simp only [up_same]) <;> grind [isGr, isRet, hasW, ungr, getK]
      · try simp only [up_ne hj]
        first | exact p0 j | (grind [isGr, isRet, hasW, ungr, getK])
  case p1 =>
    first
    | exact p1
    | skip
      intro s
      try simp only [up]
      cases hg : s.gr <;> cases hr : s.rcl <;> grind [isGr, isRet, hasW, ungr, getK]
  case p1a =>
    first
    | exact p1a
    | skip
      intro s j
      by_cases hj : j = k
      · subst hj; (try simp only [up_same]) <;> cases hg : s.gr <;> cases hr : s.rcl <;> grind [isGr, isRet, hasW, ungr, getK]
      · try simp only [up_ne hj]
        first | exact p1a s j | (cases hg : s.gr <;> cases hr : s.rcl <;> grind [isGr, isRet, hasW, ungr, getK])
  case p1b =>
    first
    | exact p1b
    | skip
      intro s
      try simp only [up]
      cases hg : s.gr <;> cases hr : s.rcl <;> grind [isGr, isRet, hasW, ungr, getK]
  case p2 =>
    first
    | exact p2
    | skip
      intro s
      try simp only [up]
      cases hg : s.gr <;> cases hr : s.rcl <;> grind [isGr, isRet, hasW, ungr, getK]
  case p2a =>
    first
    | exact p2a
    | skip
      intro s j
      by_cases hj : j = k
      · subst hj; (try simp only [up_same]) <;> cases hg : s.gr <;> cases hr : s.rcl <;> grind [isGr, isRet, hasW, ungr, getK]
      · try simp only [up_ne hj]
        first | exact p2a s j | (cases hg : s.gr <;> cases hr : s.rcl <;> grind [isGr, isRet, hasW, ungr, getK])
  case p2b =>
    first
    | exact p2b
    | skip
      intro s j
      by_cases hj : j = k
      · subst hj; (try simp only [up_same]) <;> cases hg : s.gr <;> cases hr : s.rcl <;> grind [isGr, isRet, hasW, ungr, getK]
      · try simp only [up_ne hj]
        first | exact p2b s j | (cases hg : s.gr <;> cases hr : s.rcl <;> grind [isGr, isRet, hasW, ungr, getK])
  case p3 =>
    first
    | exact p3
    | skip
      intro s
      try simp only [up]
      cases hg : s.gr <;> cases hr : s.rcl <;> grind [isGr, isRet, hasW, ungr, getK]
  case p3a =>
    first
    | exact p3a
    | skip
      intro s j
      by_cases hj : j = k
      · subst hj; (try simp only [up_same]) <;> cases hg : s.gr <;> cases hr : s.rcl <;> grind [isGr, isRet, hasW, ungr, getK]
      · try simp only [up_ne hj]
        first | exact p3a s j | (cases hg : s.gr <;> cases hr : s.rcl <;> grind [isGr, isRet, hasW, ungr, getK])
  case p3b =>
    first
    | exact p3b
    | skip
      intro s j
      by_cases hj : j = k
      · subst hj; (try simp only [up_same]) <;> cases hg : s.gr <;> cases hr : s.rcl <;> grind [isGr, isRet, hasW, ungr, getK]
      · try simp only [up_ne hj]
        first | exact p3b s j | (cases hg : s.gr <;> cases hr : s.rcl <;> grind [isGr, isRet, hasW, ungr, getK])
  case p3c =>
    first
    | exact p3c
    | skip
      intro s j
      by_cases hj : j = k
      · subst hj; (try simp only [up_same]) <;> cases hg : s.gr <;> cases hr : s.rcl <;> grind [isGr, isRet, hasW, ungr, getK]
      · try simp only [up_ne hj]
        first | exact p3c s j | (cases hg : s.gr <;> cases hr : s.rcl <;> grind [isGr, isRet, hasW, ungr, getK])
  case r1 =>
    first
    | exact r1
    | skip
      intro j
      by_cases hj : j = k
      · subst hj; (try simp only [up_same]) <;> grind [isGr, isRet, hasW, ungr, getK]
      · try simp only [up_ne hj]
        first | exact r1 j | (grind [isGr, isRet, hasW, ungr, getK])
  case r2 =>
    first
    | exact r2
    | skip
      intro j
      by_cases hj : j = k
      · subst hj; (try simp only [up_same]) <;> grind [isGr, isRet, hasW, ungr, getK]
      · try simp only [up_ne hj]
        first | exact r2 j | (grind [isGr, isRet, hasW, ungr, getK])
  case r3 =>
    first
    | exact r3
    | skip
      intro s
      try simp only [up]
      cases hg : s.gr <;> cases hr : s.rcl <;> grind [isGr, isRet, hasW, ungr, getK]
  case r4 =>
    first
    | exact r4
    | skip
      intro j
      by_cases hj : j = k
      · subst hj; (try simp only [up_same]) <;> grind [isGr, isRet, hasW, ungr, getK]
      · try simp only [up_ne hj]
        first | exact r4 j | (grind [isGr, isRet, hasW, ungr, getK])
  case r5 =>
    first
    | exact r5
    | skip
      intro j e
      by_cases hj : j = k
      · subst hj; (try simp only [up_same]) <;> grind [isGr, isRet, hasW, ungr, getK]
      · try simp only [up_ne hj]
        first | exact r5 j e | (grind [isGr, isRet, hasW, ungr, getK])
  case r6 =>
    first
    | exact r6
    | skip
      intro j
      by_cases hj : j = k
      · subst hj; (try simp only [up_same]) <;> grind [isGr, isRet, hasW, ungr, getK]
      · try simp only [up_ne hj]
        first | exact r6 j | (grind [isGr, isRet, hasW, ungr, getK])
  case r7 =>
    first
    | exact r7
    | skip
      intro j x y
      by_cases hj : j = k
      · subst hj; (try simp only [up_same]) <;> grind [isGr, isRet, hasW, ungr, getK]
      · try simp only [up_ne hj]
        first | exact r7 j x y | (grind [isGr, isRet, hasW, ungr, getK])
  case rn =>
    first
    | exact rn
    | skip
      intro j
      by_cases hj : j = k
      · subst hj; (try simp only [up_same]) <;> grind [isGr, isRet, hasW, ungr, getK]
      · try simp only [up_ne hj]
        first | exact rn j | (grind [isGr, isRet, hasW, ungr, getK])
  case lv =>
    first
    | exact lv
    | skip
      intro j
      by_cases hj : j = k
      · subst hj; (try simp only [up_same]) <;> grind [isGr, isRet, hasW, ungr, getK]
      · try simp only [up_ne hj]
        first | exact lv j | (grind [isGr, isRet, hasW, ungr, getK])
  case vw =>
    first
    | exact vw
    | skip
      intro j x y
      by_cases hj : j = k
      · subst hj; (try simp only [up_same]) <;> grind [isGr, isRet, hasW, ungr, getK]
      · try simp only [up_ne hj]
        first | exact vw j x y | (grind [isGr, isRet, hasW, ungr, getK])
  case lw =>
    first
    | exact lw
    | skip
      intro j x y
      by_cases hj : j = k
      · subst hj; (try simp only [up_same]) <;> grind [isGr, isRet, hasW, ungr, getK]
      · try simp only [up_ne hj]
        first | exact lw j x y | (grind [isGr, isRet, hasW, ungr, getK])
  case hw =>
    first
    | exact hw
    | skip
      intro j x y
      by_cases hj : j = k
      · subst hj; (try simp only [up_same]) <;> grind [isGr, isRet, hasW, ungr, getK]
      · try simp only [up_ne hj]
        first | exact hw j x y | (grind [isGr, isRet, hasW, ungr, getK])
  case tw =>
    first
    | exact tw
    | skip
      intro j x y
      by_cases hj : j = k
      · subst hj; (try simp only [up_same]) <;> grind [isGr, isRet, hasW, ungr, getK]
      · try simp only [up_ne hj]
        first | exact tw j x y | (grind [isGr, isRet, hasW, ungr, getK])
  case pw =>
    first
    | exact pw
    | skip
      intro j x y
      by_cases hj : j = k
      · subst hj; (try simp only [up_same]) <;> grind [isGr, isRet, hasW, ungr, getK]
      · try simp only [up_ne hj]
        first | exact pw j x y | (grind [isGr, isRet, hasW, ungr, getK])
  case shn =>
    first
    | exact shn
    | skip
      grind [isGr, isRet, hasW, ungr, getK]
  case shl =>
    first
    | exact shl
    | skip
      intro j
      by_cases hj : j = k
      · subst hj; (try simp only [up_same]) <;> grind [isGr, isRet, hasW, ungr, getK]
      · try simp only [up_ne hj]
        first | exact shl j | (grind [isGr, isRet, hasW, ungr, getK])
  case own =>
    first
    | exact own
    | skip
      intro j
      by_cases hj : j = k
      · subst hj; (try simp only [up_same]) <;> grind [isGr, isRet, hasW, ungr, getK]
      · try simp only [up_ne hj]
        first | exact own j | (grind [isGr, isRet, hasW, ungr, getK])
  case pe =>
    first
    | exact pe
    | skip
      intro j x y
      by_cases hj : j = k
      · subst hj; (try simp only [up_same]) <;> grind [isGr, isRet, hasW, ungr, getK]
      · try simp only [up_ne hj]
        first | exact pe j x y | (grind [isGr, isRet, hasW, ungr, getK])
  case ps =>
    first
    | exact ps
    | skip
      intro j x
      by_cases hj : j = k
      · subst hj; (try simp only [up_same]) <;> grind [isGr, isRet, hasW, ungr, getK]
      · try simp only [up_ne hj]
        first | exact ps j x | (grind [isGr, isRet, hasW, ungr, getK])
  case ox =>
    first
    | exact ox
    | skip
      intro j
      by_cases hj : j = k
      · subst hj; (try simp only [up_same]) <;> grind [isGr, isRet, hasW, ungr, getK]
      · try simp only [up_ne hj]
        first | exact ox j | (grind [isGr, isRet, hasW, ungr, getK])
  case pl =>
    first
    | exact pl
    | skip
      intro j
      by_cases hj : j = k
      · subst hj; (try simp only [up_same]) <;> grind [isGr, isRet, hasW, ungr, getK]
      · try simp only [up_ne hj]
        first | exact pl j | (grind [isGr, isRet, hasW, ungr, getK])
  case rp =>
    first
    | exact rp
    | skip
      intro j x y
      by_cases hj : j = k
      · subst hj; (try simp only [up_same]) <;> grind [isGr, isRet, hasW, ungr, getK]
      · try simp only [up_ne hj]
        first | exact rp j x y | (grind [isGr, isRet, hasW, ungr, getK])
  case cf =>
    first
    | exact cf
    | skip
      intro j
      by_cases hj : j = k
      · subst hj; (try simp only [up_same]) <;> grind [isGr, isRet, hasW, ungr, getK]
      · try simp only [up_ne hj]
        first | exact cf j | (grind [isGr, isRet, hasW, ungr, getK])
  case gs =>
    first
    | exact gs
    | skip
      intro j x
      by_cases hj : j = k
      · subst hj; (try simp only [up_same]) <;> grind [isGr, isRet, hasW, ungr, getK]
      · try simp only [up_ne hj]
        first | exact gs j x | (grind [isGr, isRet, hasW, ungr, getK])
  case ge =>
    first
    | exact ge
    | skip
      intro j x y
      by_cases hj : j = k
      · subst hj; (try simp only [up_same]) <;> grind [isGr, isRet, hasW, ungr, getK]
      · try simp only [up_ne hj]
        first | exact ge j x y | (grind [isGr, isRet, hasW, ungr, getK])
  case ia =>
    first
    | exact ia
    | skip
      intro j
      by_cases hj : j = k
      · subst hj; (try simp only [up_same]) <;> grind [isGr, isRet, hasW, ungr, getK]
      · try simp only [up_ne hj]
        first | exact ia j | (grind [isGr, isRet, hasW, ungr, getK])
  case rt =>
    first
    | exact rt
    | skip
      intro j x y
      by_cases hj : j = k
      · subst hj; (try simp only [up_same]) <;> grind [isGr, isRet, hasW, ungr, getK]
      · try simp only [up_ne hj]
        first | exact rt j x y | (grind [isGr, isRet, hasW, ungr, getK])
  case re =>
    first
    | exact re
    | skip
      intro j s
      by_cases hj : j = k
      · subst hj; (try simp only [up_same]) <;> cases hg : s.gr <;> cases hr : s.rcl <;> grind [isGr, isRet, hasW, ungr, getK]
      · try simp only [up_ne hj]
        first | exact re j s | (cases hg : s.gr <;> cases hr : s.rcl <;> grind [isGr, isRet, hasW, ungr, getK])
theorem t_leave {k w : Nat} {st : S3} (I : LInv n wl a) (hP : a.P k = some (st, w)) (hs : st ≠ .S) (hR : a.R k = none) (d : Bool) :
    LInv n wl { a with P := up a.P k none, L := up a.L k (some (some w, d)), v := up a.v k (some (.giveUp w d)) } := by
  have J := I
  obtain ⟨p0, p1, p1a, p1b, p2, p2a, p2b, p3, p3a, p3b, p3c, r1, r2, r3, r4, r5, r6, r7, rn, lv, vw, lw, hw, tw, pw, shn, shl, own, pe, ps, ox, pl, rp, cf, gs, ge, ia, rt, re⟩ := I
  constructor
  case p0 =>
    first
    | exact p0
    | skip
      intro j
      by_cases hj : j = k
      · subst hj; (try simp only [up_same]) <;> grind [isGr, isRet, hasW, ungr, getK]
      · try simp only [up_ne hj]
        first | exact p0 j | (grind [isGr, isRet, hasW, ungr, getK])
  case p1 =>
    first
    | exact p1
    | skip
      intro s
      try simp only [up]
      cases hg : s.gr <;> cases hr : s.rcl <;> grind [isGr, isRet, hasW, ungr, getK]
  case p1a =>
    first
    | exact p1a
    | skip
      intro s j
      by_cases hj : j = k
      · subst hj; (try simp only [up_same]) <;> cases hg : s.gr <;> cases hr : s.rcl <;> grind [isGr, isRet, hasW, ungr, getK]
      · try simp only [up_ne hj]
        first | exact p1a s j | (cases hg : s.gr <;> cases hr : s.rcl <;> grind [isGr, isRet, hasW, ungr, getK])
  case p1b =>
    first
    | exact p1b
    | skip
      intro s
      try simp only [up]
      cases hg : s.gr <;> cases hr : s.rcl <;> grind [isGr, isRet, hasW, ungr, getK]
  case p2 =>
    first
    | exact p2
    | skip
      intro s
      try simp only [up]
      cases hg : s.gr <;> cases hr : s.rcl <;> grind [isGr, isRet, hasW, ungr, getK]
  case p2a =>
    first
    | exact p2a
    | skip
      intro s j
      by_cases hj : j = k
      · subst hj; (try simp only [up_same]) <;> cases hg : s.gr <;> cases hr : s.rcl <;> grind [isGr, isRet, hasW, ungr, getK]
      · try simp only [up_ne hj]
        first | exact p2a s j | (cases hg : s.gr <;> cases hr : s.rcl <;> grind [isGr, isRet, hasW, ungr, getK])
  case p2b =>
    first
    | exact p2b
    | skip
      intro s j
      by_cases hj : j = k
      · subst hj; (try simp only [up_same]) <;> cases hg : s.gr <;> cases hr : s.rcl <;> grind [isGr, isRet, hasW, ungr, getK]
      · try simp only [up_ne hj]
        first | exact p2b s j | (cases hg : s.gr <;> cases hr : s.rcl <;> grind [isGr, isRet, hasW, ungr, getK])
  case p3 =>
    first
    | exact p3
    | skip
      intro s
      try simp only [up]
      cases hg : s.gr <;> cases hr : s.rcl <;> grind [isGr, isRet, hasW, ungr, getK]
  case p3a =>
    first
    | exact p3a
    | skip
      intro s j
      by_cases hj : j = k
      · subst hj; (try simp only [up_same]) <;> cases hg : s.gr <;> cases hr : s.rcl <;> grind [isGr, isRet, hasW, ungr, getK]
      · try simp only [up_ne hj]
        first | exact p3a s j | (cases hg : s.gr <;> cases hr : s.rcl <;> grind [isGr, isRet, hasW, ungr, getK])
  case p3b =>
    first
    | exact p3b
    | skip
      intro s j
      by_cases hj : j = k
      · subst hj; (try simp only [up_same]) <;> cases hg : s.gr <;> cases hr : s.rcl <;> grind [isGr, isRet, hasW, ungr, getK]
      · try simp only [up_ne hj]
        first | exact p3b s j | (cases hg : s.gr <;> cases hr : s.rcl <;> grind [isGr, isRet, hasW, ungr, getK])
  case p3c =>
    first
    | exact p3c
    | skip
      intro s j
      by_cases hj : j = k
      · subst hj; (try simp only [up_same]) <;> cases hg : s.gr <;> cases hr : s.rcl <;> grind [isGr, isRet, hasW, ungr, getK]
      · try simp only [up_ne hj]
        first | exact p3c s j | (cases hg : s.gr <;> cases hr : s.rcl <;> grind [isGr, isRet, hasW, ungr, getK])
  case r1 =>
    first
    | exact r1
    | skip
      intro j
      by_cases hj : j = k
      · subst hj; (try simp only [up_same]) <;> grind [isGr, isRet, hasW, ungr, getK]
      · try simp only [up_ne hj]
        first | exact r1 j | (grind [isGr, isRet, hasW, ungr, getK])
  case r2 =>
    first
    | exact r2
    | skip
      intro j
      by_cases hj : j = k
      · subst hj; (try simp only [up_same]) <;> grind [isGr, isRet, hasW, ungr, getK]
      · try simp only [up_ne hj]
        first | exact r2 j | (grind [isGr, isRet, hasW, ungr, getK])
  case r3 =>
    first
    | exact r3
    | skip
      intro s
      try simp only [up]
      cases hg : s.gr <;> cases hr : s.rcl <;> grind [isGr, isRet, hasW, ungr, getK]
  case r4 =>
    first
    | exact r4
    | skip
      intro j
      by_cases hj : j = k
      · subst hj; (try simp only [up_same]) <;> grind [isGr, isRet, hasW, ungr, getK]
      · try simp only [up_ne hj]
        first | exact r4 j | (grind [isGr, isRet, hasW, ungr, getK])
  case r5 =>
    first
    | exact r5
    | skip
      intro j e
      by_cases hj : j = k
      · subst hj; (try simp only [up_same]) <;> grind [isGr, isRet, hasW, ungr, getK]
      · try simp only [up_ne hj]
        first | exact r5 j e | (grind [isGr, isRet, hasW, ungr, getK])
  case r6 =>
    first
    | exact r6
    | skip
      intro j
      by_cases hj : j = k
      · subst hj; (try simp only [up_same]) <;> grind [isGr, isRet, hasW, ungr, getK]
      · try simp only [up_ne hj]
        first | exact r6 j | (grind [isGr, isRet, hasW, ungr, getK])
  case r7 =>
    first
    | exact r7
    | skip
      intro j x y
      by_cases hj : j = k
      · subst hj; (try simp only [up_same]) <;> grind [isGr, isRet, hasW, ungr, getK]
      · try simp only [up_ne hj]
        first | exact r7 j x y | (grind [isGr, isRet, hasW, ungr, getK])
  case rn =>
    first
    | exact rn
    | skip
      intro j
      by_cases hj : j = k
      · subst hj; (try simp only [up_same]) <;> grind [isGr, isRet, hasW, ungr, getK]
      · try simp only [up_ne hj]
        first | exact rn j | (grind [isGr, isRet, hasW, ungr, getK])
  case lv =>
    first
    | exact lv
    | skip
      intro j
      by_cases hj : j = k
      · subst hj; (try simp only [up_same]) <;> grind [isGr, isRet, hasW, ungr, getK]
      · try simp only [up_ne hj]
        first | exact lv j | (grind [isGr, isRet, hasW, ungr, getK])
  case vw =>
    first
    | exact vw
    | skip
      intro j x y
      by_cases hj : j = k
      · subst hj; (try simp only [up_same]) <;> grind [isGr, isRet, hasW, ungr, getK]
      · try simp only [up_ne hj]
        first | exact vw j x y | (grind [isGr, isRet, hasW, ungr, getK])
  case lw =>
    first
    | exact lw
    | skip
      intro j x y
      by_cases hj : j = k
      · subst hj; (try simp only [up_same]) <;> grind [isGr, isRet, hasW, ungr, getK]
      · try simp only [up_ne hj]
        first | exact lw j x y | (grind [isGr, isRet, hasW, ungr, getK])
  case hw =>
    first
    | exact hw
    | skip
      intro j x y
      by_cases hj : j = k
      · subst hj; (try simp only [up_same]) <;> grind [isGr, isRet, hasW, ungr, getK]
      · try simp only [up_ne hj]
        first | exact hw j x y | (grind [isGr, isRet, hasW, ungr, getK])
  case tw =>
    first
    | exact tw
    | skip
      intro j x y
      by_cases hj : j = k
      · subst hj; (try simp only [up_same]) <;> grind [isGr, isRet, hasW, ungr, getK]
      · try simp only [up_ne hj]
        first | exact tw j x y | (grind [isGr, isRet, hasW, ungr, getK])
  case pw =>
    first
    | exact pw
    | skip
      intro j x y
      by_cases hj : j = k
      · subst hj; (try simp only [up_same]) <;> grind [isGr, isRet, hasW, ungr, getK]
      · try simp only [up_ne hj]
        first | exact pw j x y | (grind [isGr, isRet, hasW, ungr, getK])
  case shn =>
    first
    | exact shn
    | skip
      grind [isGr, isRet, hasW, ungr, getK]
  case shl =>
    first
    | exact shl
    | skip
      intro j
      by_cases hj : j = k
      · subst hj; (try simp only [up_same]) <;> grind [isGr, isRet, hasW, ungr, getK]
      · try simp only [up_ne hj]
        first | exact shl j | (grind [isGr, isRet, hasW, ungr, getK])
  case own =>
    first
    | exact own
    | skip
      intro j
      by_cases hj : j = k
      · subst hj; (try simp only [up_same]) <;> grind [isGr, isRet, hasW, ungr, getK]
      · try simp only [up_ne hj]
        first | exact own j | (grind [isGr, isRet, hasW, ungr, getK])
  case pe =>
    first
    | exact pe
    | skip
      intro j x y
      by_cases hj : j = k
      · subst hj; (try simp only [up_same]) <;> grind [isGr, isRet, hasW, ungr, getK]
      · try simp only [up_ne hj]
        first | exact pe j x y | (grind [isGr, isRet, hasW, ungr, getK])
  case ps =>
    first
    | exact ps
    | skip
      intro j x
      by_cases hj : j = k
      · subst hj; (try simp only [up_same]) <;> grind [isGr, isRet, hasW, ungr, getK]
      · try simp only [up_ne hj]
        first | exact ps j x | (grind [isGr, isRet, hasW, ungr, getK])
  case ox =>
    first
    | exact ox
    | skip
      intro j
      by_cases hj : j = k
      · subst hj; (try simp only [up_same]) <;> grind [isGr, isRet, hasW, ungr, getK]
      · try simp only [up_ne hj]
        first | exact ox j | (grind [isGr, isRet, hasW, ungr, getK])
  case pl =>
    first
    | exact pl
    | skip
      intro j
      by_cases hj : j = k
      · subst hj; (try simp only [up_same]) <;> grind [isGr, isRet, hasW, ungr, getK]
      · try simp only [up_ne hj]
        first | exact pl j | (grind [isGr, isRet, hasW, ungr, getK])
  case rp =>
    first
    | exact rp
    | skip
      intro j x y
      by_cases hj : j = k
      · subst hj; (try simp only [up_same]) <;> grind [isGr, isRet, hasW, ungr, getK]
      · try simp only [up_ne hj]
        first | exact rp j x y | (grind [isGr, isRet, hasW, ungr, getK])
  case cf =>
    first
    | exact cf
    | skip
      intro j
      by_cases hj : j = k
      · subst hj; (try simp only [up_same]) <;> grind [isGr, isRet, hasW, ungr, getK]
      · try simp only [up_ne hj]
        first | exact cf j | (grind [isGr, isRet, hasW, ungr, getK])
  case gs =>
    first
    | exact gs
    | skip
      intro j x
      by_cases hj : j = k
      · subst hj; (try simp only [up_same]) <;> grind [isGr, isRet, hasW, ungr, getK]
      · try simp only [up_ne hj]
        first | exact gs j x | (grind [isGr, isRet, hasW, ungr, getK])
  case ge =>
    first
    | exact ge
    | skip
      intro j x y
      by_cases hj : j = k
      · subst hj; (try simp only [up_same]) <;> grind [isGr, isRet, hasW, ungr, getK]
      · try simp only [up_ne hj]
        first | exact ge j x y | (grind [isGr, isRet, hasW, ungr, getK])
  case ia =>
    first
    | exact ia
    | skip
      intro j
      by_cases hj : j = k
      · subst hj; (try simp only [up_same]) <;> grind [isGr, isRet, hasW, ungr, getK]
      · try simp only [up_ne hj]
        first | exact ia j | (grind [isGr, isRet, hasW, ungr, getK])
  case rt =>
    first
    | exact rt
    | skip
      intro j x y
      by_cases hj : j = k
      · subst hj; (try simp only [up_same]) <;> grind [isGr, isRet, hasW, ungr, getK]
      · try simp only [up_ne hj]
        first | exact rt j x y | (grind [isGr, isRet, hasW, ungr, getK])
  case re =>
    first
    | exact re
    | skip
      intro j s
      by_cases hj : j = k
      · subst hj; (try simp only [up_same]) <;> cases hg : s.gr <;> cases hr : s.rcl <;> grind [isGr, isRet, hasW, ungr, getK]
      · try simp only [up_ne hj]
        first | exact re j s | (cases hg : s.gr <;> cases hr : s.rcl <;> grind [isGr, isRet, hasW, ungr, getK])
theorem t_giveUp {k w : Nat} {d : Bool} (I : LInv n wl a) (hs : a.sv = none) (hv : a.v k = some (.giveUp w d)) :
    LInv n wl { a with ow := if a.ow = some k then none else a.ow, v := up a.v k (some .confirm) } := by
  have J := I
  obtain ⟨p0, p1, p1a, p1b, p2, p2a, p2b, p3, p3a, p3b, p3c, r1, r2, r3, r4, r5, r6, r7, rn, lv, vw, lw, hw, tw, pw, shn, shl, own, pe, ps, ox, pl, rp, cf, gs, ge, ia, rt, re⟩ := I
  constructor
  case p0 =>
    first
    | exact p0
    | skip
      intro j
      by_cases hj : j = k
      · subst hj; (try simp only [up_same]) <;> grind [isGr, isRet, hasW, ungr, getK]
      · try simp only [up_ne hj]
        first | exact p0 j | (grind [isGr, isRet, hasW, ungr, getK])
  case p1 =>
    first
    | exact p1
    | skip
      intro s
      try simp only [up]
      cases hg : s.gr <;> cases hr : s.rcl <;> grind [isGr, isRet, hasW, ungr, getK]
  case p1a =>
    first
    | exact p1a
    | skip
      intro s j
      by_cases hj : j = k
      · subst hj; (try simp only [up_same]) <;> cases hg : s.gr <;> cases hr : s.rcl <;> grind [isGr, isRet, hasW, ungr, getK]
      · try simp only [up_ne hj]
        first | exact p1a s j | (cases hg : s.gr <;> cases hr : s.rcl <;> grind [isGr, isRet, hasW, ungr, getK])
  case p1b =>
    first
    | exact p1b
    | skip
      intro s
      try simp only [up]
      cases hg : s.gr <;> cases hr : s.rcl <;> grind [isGr, isRet, hasW, ungr, getK]
  case p2 =>
    first
    | exact p2
    | skip
      intro s
      try simp only [up]
      cases hg : s.gr <;> cases hr : s.rcl <;> grind [isGr, isRet, hasW, ungr, getK]
  case p2a =>
    first
    | exact p2a
    | skip
      intro s j
      by_cases hj : j = k
      · subst hj; (try simp only [up_same]) <;> cases hg : s.gr <;> cases hr : s.rcl <;> grind [isGr, isRet, hasW, ungr, getK]
      · try simp only [up_ne hj]
        first | exact p2a s j | (cases hg : s.gr <;> cases hr : s.rcl <;> grind [isGr, isRet, hasW, ungr, getK])
  case p2b =>
    first
    | exact p2b
    | skip
      intro s j
      by_cases hj : j = k
      · subst hj; (try simp only [up_same]) <;> cases hg : s.gr <;> cases hr : s.rcl <;> grind [isGr, isRet, hasW, ungr, getK]
      · try simp only [up_ne hj]
        first | exact p2b s j | (cases hg : s.gr <;> cases hr : s.rcl <;> grind [isGr, isRet, hasW, ungr, getK])
  case p3 =>
    first
    | exact p3
    | skip
      intro s
      try simp only [up]
      cases hg : s.gr <;> cases hr : s.rcl <;> grind [isGr, isRet, hasW, ungr, getK]
  case p3a =>
    first
    | exact p3a
    | skip
      intro s j
      by_cases hj : j = k
      · subst hj; (try simp only [up_same]) <;> cases hg : s.gr <;> cases hr : s.rcl <;> grind [isGr, isRet, hasW, ungr, getK]
      · try simp only [up_ne hj]
        first | exact p3a s j | (cases hg : s.gr <;> cases hr : s.rcl <;> grind [isGr, isRet, hasW, ungr, getK])
  case p3b =>
    first
    | exact p3b
    | skip
      intro s j
      by_cases hj : j = k
      · subst hj; (try simp only [up_same]) <;> cases hg : s.gr <;> cases hr : s.rcl <;> grind [isGr, isRet, hasW, ungr, getK]
      · try simp only [up_ne hj]
        first | exact p3b s j | (cases hg : s.gr <;> cases hr : s.rcl <;> grind [isGr, isRet, hasW, ungr, getK])
  case p3c =>
    first
    | exact p3c
    | skip
      intro s j
      by_cases hj : j = k
      · subst hj; (try simp only [up_same]) <;> cases hg : s.gr <;> cases hr : s.rcl <;> grind [isGr, isRet, hasW, ungr, getK]
      · try simp only [up_ne hj]
        first | exact p3c s j | (cases hg : s.gr <;> cases hr : s.rcl <;> grind [isGr, isRet, hasW, ungr, getK])
  case r1 =>
    first
    | exact r1
    | skip
      intro j
      by_cases hj : j = k
      · subst hj; (try simp only [up_same]) <;> grind [isGr, isRet, hasW, ungr, getK]
      · try simp only [up_ne hj]
        first | exact r1 j | (grind [isGr, isRet, hasW, ungr, getK])
  case r2 =>
    first
    | exact r2
    | skip
      intro j
      by_cases hj : j = k
      · subst hj; (try simp only [up_same]) <;> grind [isGr, isRet, hasW, ungr, getK]
      · try simp only [up_ne hj]
        first | exact r2 j | (grind [isGr, isRet, hasW, ungr, getK])
  case r3 =>
    first
    | exact r3
    | skip
      intro s
      try simp only [up]
      cases hg : s.gr <;> cases hr : s.rcl <;> grind [isGr, isRet, hasW, ungr, getK]
  case r4 =>
    first
    | exact r4
    | skip
      intro j
      by_cases hj : j = k
      · subst hj; (try simp only [up_same]) <;> grind [isGr, isRet, hasW, ungr, getK]
      · try simp only [up_ne hj]
        first | exact r4 j | (grind [isGr, isRet, hasW, ungr, getK])
  case r5 =>
    first
    | exact r5
    | skip
      intro j e
      by_cases hj : j = k
      · subst hj; (try simp only [up_same]) <;> grind [isGr, isRet, hasW, ungr, getK]
      · try simp only [up_ne hj]
        first | exact r5 j e | (grind [isGr, isRet, hasW, ungr, getK])
  case r6 =>
    first
    | exact r6
    | skip
      intro j
      by_cases hj : j = k
      · subst hj; (try simp only [up_same]) <;> grind [isGr, isRet, hasW, ungr, getK]
      · try simp only [up_ne hj]
        first | exact r6 j | (grind [isGr, isRet, hasW, ungr, getK])
  case r7 =>
    first
    | exact r7
    | skip
      intro j x y
      by_cases hj : j = k
      · subst hj; (try simp only [up_same]) <;> grind [isGr, isRet, hasW, ungr, getK]
      · try simp only [up_ne hj]
        first | exact r7 j x y | (grind [isGr, isRet, hasW, ungr, getK])
  case rn =>
    first
    | exact rn
    | skip
      intro j
      by_cases hj : j = k
      · subst hj; (try simp only [up_same]) <;> grind [isGr, isRet, hasW, ungr, getK]
      · try simp only [up_ne hj]
        first | exact rn j | (grind [isGr, isRet, hasW, ungr, getK])
  case lv =>
    first
    | exact lv
    | skip
      intro j
      by_cases hj : j = k
      · subst hj; (try simp only [up_same]) <;> grind [isGr, isRet, hasW, ungr, getK]
      · try simp only [up_ne hj]
        first | exact lv j | (grind [isGr, isRet, hasW, ungr, getK])
  case vw =>
    first
    | exact vw
    | skip
      intro j x y
      by_cases hj : j = k
      · subst hj; (try simp only [up_same]) <;> grind [isGr, isRet, hasW, ungr, getK]
      · try simp only [up_ne hj]
        first | exact vw j x y | (grind [isGr, isRet, hasW, ungr, getK])
  case lw =>
    first
    | exact lw
    | skip
      intro j x y
      by_cases hj : j = k
      · subst hj; (try simp only [up_same]) <;> grind [isGr, isRet, hasW, ungr, getK]
      · try simp only [up_ne hj]
        first | exact lw j x y | (grind [isGr, isRet, hasW, ungr, getK])
  case hw =>
    first
    | exact hw
    | skip
      intro j x y
      by_cases hj : j = k
      · subst hj; (try simp only [up_same]) <;> grind [isGr, isRet, hasW, ungr, getK]
      · try simp only [up_ne hj]
        first | exact hw j x y | (grind [isGr, isRet, hasW, ungr, getK])
  case tw =>
    first
    | exact tw
    | skip
      intro j x y
      by_cases hj : j = k
      · subst hj; (try simp only [up_same]) <;> grind [isGr, isRet, hasW, ungr, getK]
      · try simp only [up_ne hj]
        first | exact tw j x y | (grind [isGr, isRet, hasW, ungr, getK])
  case pw =>
    first
    | exact pw
    | skip
      intro j x y
      by_cases hj : j = k
      · subst hj; (try simp only [up_same]) <;> grind [isGr, isRet, hasW, ungr, getK]
      · try simp only [up_ne hj]
        first | exact pw j x y | (grind [isGr, isRet, hasW, ungr, getK])
  case shn =>
    first
    | exact shn
    | skip
      grind [isGr, isRet, hasW, ungr, getK]
  case shl =>
    first
    | exact shl
    | skip
      intro j
      by_cases hj : j = k
      · subst hj; (try simp only [up_same]) <;> grind [isGr, isRet, hasW, ungr, getK]
      · try simp only [up_ne hj]
        first | exact shl j | (grind [isGr, isRet, hasW, ungr, getK])
  case own =>
    first
    | exact own
    | skip
      intro j
      by_cases hj : j = k
      · subst hj; (try simp only [up_same]) <;> grind [isGr, isRet, hasW, ungr, getK]
      · try simp only [up_ne hj]
        first | exact own j | (grind [isGr, isRet, hasW, ungr, getK])
  case pe =>
    first
    | exact pe
    | skip
      intro j x y
      by_cases hj : j = k
      · subst hj; (try simp only [up_same]) <;> grind [isGr, isRet, hasW, ungr, getK]
      · try simp only [up_ne hj]
        first | exact pe j x y | (grind [isGr, isRet, hasW, ungr, getK])
  case ps =>
    first
    | exact ps
    | skip
      intro j x
      by_cases hj : j = k
      · subst hj; (try simp only [up_same]) <;> grind [isGr, isRet, hasW, ungr, getK]
      · try simp only [up_ne hj]
        first | exact ps j x | (grind [isGr, isRet, hasW, ungr, getK])
  case ox =>
    first
    | exact ox
    | skip
      intro j
      by_cases hj : j = k
      · subst hj; (try simp only [up_same]) <;> grind [isGr, isRet, hasW, ungr, getK]
      · try simp only [up_ne hj]
        first | exact ox j | (grind [isGr, isRet, hasW, ungr, getK])
  case pl =>
    first
    | exact pl
    | skip
      intro j
      by_cases hj : j = k
      · subst hj; (try simp only [up_same]) <;> grind [isGr, isRet, hasW, ungr, getK]
      · try simp only [up_ne hj]
        first | exact pl j | (grind [isGr, isRet, hasW, ungr, getK])
  case rp =>
    first
    | exact rp
    | skip
      intro j x y
      by_cases hj : j = k
      · subst hj; (try simp only [up_same]) <;> grind [isGr, isRet, hasW, ungr, getK]
      · try simp only [up_ne hj]
        first | exact rp j x y | (grind [isGr, isRet, hasW, ungr, getK])
  case cf =>
    first
    | exact cf
    | skip
      intro j
      by_cases hj : j = k
      · subst hj; (try simp only [up_same]) <;> grind [isGr, isRet, hasW, ungr, getK]
      · try simp only [up_ne hj]
        first | exact cf j | (grind [isGr, isRet, hasW, ungr, getK])
  case gs =>
    first
    | exact gs
    | skip
      intro j x
      by_cases hj : j = k
      · subst hj; (try simp only [up_same]) <;> grind [isGr, isRet, hasW, ungr, getK]
      · try simp only [up_ne hj]
        first | exact gs j x | (grind [isGr, isRet, hasW, ungr, getK])
  case ge =>
    first
    | exact ge
    | skip
      intro j x y
      by_cases hj : j = k
      · subst hj; (try simp only [up_same]) <;> grind [isGr, isRet, hasW, ungr, getK]
      · try simp only [up_ne hj]
        first | exact ge j x y | (grind [isGr, isRet, hasW, ungr, getK])
  case ia =>
    first
    | exact ia
    | skip
      intro j
      by_cases hj : j = k
      · subst hj; (try simp only [up_same]) <;> grind [isGr, isRet, hasW, ungr, getK]
      · try simp only [up_ne hj]
        first | exact ia j | (grind [isGr, isRet, hasW, ungr, getK])
  case rt =>
    first
    | exact rt
    | skip
      intro j x y
      by_cases hj : j = k
      · subst hj; (try simp only [up_same]) <;> grind [isGr, isRet, hasW, ungr, getK]
      · try simp only [up_ne hj]
        first | exact rt j x y | (grind [isGr, isRet, hasW, ungr, getK])
  case re =>
    first
    | exact re
    | skip
      intro j s
      by_cases hj : j = k
      · subst hj; (try simp only [up_same]) <;> cases hg : s.gr <;> cases hr : s.rcl <;> grind [isGr, isRet, hasW, ungr, getK]
      · try simp only [up_ne hj]
        first | exact re j s | (cases hg : s.gr <;> cases hr : s.rcl <;> grind [isGr, isRet, hasW, ungr, getK])
theorem t_confirm {k : Nat} (I : LInv n wl a) (hv : a.v k = some .confirm) :
    LInv n wl { a with L := up a.L k none, v := up a.v k none } := by
  have J := I
  obtain ⟨p0, p1, p1a, p1b, p2, p2a, p2b, p3, p3a, p3b, p3c, r1, r2, r3, r4, r5, r6, r7, rn, lv, vw, lw, hw, tw, pw, shn, shl, own, pe, ps, ox, pl, rp, cf, gs, ge, ia, rt, re⟩ := I
  constructor
  case p0 =>
    first
    | exact p0
    | skip
      intro j
      by_cases hj : j = k
      · subst hj; (try simp only [up_same]) <;> grind [isGr, isRet, hasW, ungr, getK]
      · try simp only [up_ne hj]
        first | exact p0 j | (grind [isGr, isRet, hasW, ungr, getK])
  case p1 =>
    first
    | exact p1
    | skip
      intro s
      try simp only [up]
      cases hg : s.gr <;> cases hr : s.rcl <;> grind [isGr, isRet, hasW, ungr, getK]
  case p1a =>
    first
    | exact p1a
    | skip
      intro s j
      by_cases hj : j = k
      · subst hj; (try simp only [up_same]) <;> cases hg : s.gr <;> cases hr : s.rcl <;> grind [isGr, isRet, hasW, ungr, getK]
      · try simp only [up_ne hj]
        first | exact p1a s j | (cases hg : s.gr <;> cases hr : s.rcl <;> grind [isGr, isRet, hasW, ungr, getK])
  case p1b =>
    first
    | exact p1b
    | skip
      intro s
      try simp only [up]
      cases hg : s.gr <;> cases hr : s.rcl <;> grind [isGr, isRet, hasW, ungr, getK]
  case p2 =>
    first
    | exact p2
    | skip
      intro s
      try simp only [up]
      cases hg : s.gr <;> cases hr : s.rcl <;> grind [isGr, isRet, hasW, ungr, getK]
  case p2a =>
    first
    | exact p2a
    | skip
      intro s j
      by_cases hj : j = k
      · subst hj; (try simp only [up_same]) <;> cases hg : s.gr <;> cases hr : s.rcl <;> grind [isGr, isRet, hasW, ungr, getK]
      · try simp only [up_ne hj]
        first | exact p2a s j | (cases hg : s.gr <;> cases hr : s.rcl <;> grind [isGr, isRet, hasW, ungr, getK])
  case p2b =>
    first
    | exact p2b
    | skip
      intro s j
      by_cases hj : j = k
      · subst hj; (try simp only [up_same]) <;> cases hg : s.gr <;> cases hr : s.rcl <;> grind [isGr, isRet, hasW, ungr, getK]
      · try simp only [up_ne hj]
        first | exact p2b s j | (cases hg : s.gr <;> cases hr : s.rcl <;> grind [isGr, isRet, hasW, ungr, getK])
  case p3 =>
    first
    | exact p3
    | skip
      intro s
      try simp only [up]
      cases hg : s.gr <;> cases hr : s.rcl <;> grind [isGr, isRet, hasW, ungr, getK]
  case p3a =>
    first
    | exact p3a
    | skip
      intro s j
      by_cases hj : j = k
      · subst hj; (try simp only [up_same]) <;> cases hg : s.gr <;> cases hr : s.rcl <;> grind [isGr, isRet, hasW, ungr, getK]
      · try simp only [up_ne hj]
        first | exact p3a s j | (cases hg : s.gr <;> cases hr : s.rcl <;> grind [isGr, isRet, hasW, ungr, getK])
  case p3b =>
    first
    | exact p3b
    | skip
      intro s j
      by_cases hj : j = k
      · subst hj; (try simp only [up_same]) <;> cases hg : s.gr <;> cases hr : s.rcl <;> grind [isGr, isRet, hasW, ungr, getK]
      · try simp only [up_ne hj]
        first | exact p3b s j | (cases hg : s.gr <;> cases hr : s.rcl <;> grind [isGr, isRet, hasW, ungr, getK])
  case p3c =>
    first
    | exact p3c
    | skip
      intro s j
      by_cases hj : j = k
      · subst hj; (try simp only [up_same]) <;> cases hg : s.gr <;> cases hr : s.rcl <;> grind [isGr, isRet, hasW, ungr, getK]
      · try simp only [up_ne hj]
        first | exact p3c s j | (cases hg : s.gr <;> cases hr : s.rcl <;> grind [isGr, isRet, hasW, ungr, getK])
  case r1 =>
    first
    | exact r1
    | skip
      intro j
      by_cases hj : j = k
      · subst hj; (try simp only [up_same]) <;> grind [isGr, isRet, hasW, ungr, getK]
      · try simp only [up_ne hj]
        first | exact r1 j | (grind [isGr, isRet, hasW, ungr, getK])
  case r2 =>
    first
    | exact r2
    | skip
      intro j
      by_cases hj : j = k
      · subst hj; (try simp only [up_same]) <;> grind [isGr, isRet, hasW, ungr, getK]
      · try simp only [up_ne hj]
        first | exact r2 j | (grind [isGr, isRet, hasW, ungr, getK])
  case r3 =>
    first
    | exact r3
    | skip
      intro s
      try simp only [up]
      cases hg : s.gr <;> cases hr : s.rcl <;> grind [isGr, isRet, hasW, ungr, getK]
  case r4 =>
    first
    | exact r4
    | skip
      intro j
      by_cases hj : j = k
      · subst hj; (try simp only [up_same]) <;> grind [isGr, isRet, hasW, ungr, getK]
      · try simp only [up_ne hj]
        first | exact r4 j | (grind [isGr, isRet, hasW, ungr, getK])
  case r5 =>
    first
    | exact r5
    | skip
      intro j e
      by_cases hj : j = k
      · subst hj; (try simp only [up_same]) <;> grind [isGr, isRet, hasW, ungr, getK]
      · try simp only [up_ne hj]
        first | exact r5 j e | (grind [isGr, isRet, hasW, ungr, getK])
  case r6 =>
    first
    | exact r6
    | skip
      intro j
      by_cases hj : j = k
      · subst hj; (try simp only [up_same]) <;> grind [isGr, isRet, hasW, ungr, getK]
      · try simp only [up_ne hj]
        first | exact r6 j | (grind [isGr, isRet, hasW, ungr, getK])
  case r7 =>
    first
    | exact r7
    | skip
      intro j x y
      by_cases hj : j = k
      · subst hj; (try simp only [up_same]) <;> grind [isGr, isRet, hasW, ungr, getK]
      · try simp only [up_ne hj]
        first | exact r7 j x y | (grind [isGr, isRet, hasW, ungr, getK])
  case rn =>
    first
    | exact rn
    | skip
      intro j
      by_cases hj : j = k
      · subst hj; (try simp only [up_same]) <;> grind [isGr, isRet, hasW, ungr, getK]
      · try simp only [up_ne hj]
        first | exact rn j | (grind [isGr, isRet, hasW, ungr, getK])
  case lv =>
    first
    | exact lv
    | skip
      intro j
      by_cases hj : j = k
      · subst hj; (try simp only [up_same]) <;> grind [isGr, isRet, hasW, ungr, getK]
      · try simp only [up_ne hj]
        first | exact lv j | (grind [isGr, isRet, hasW, ungr, getK])
  case vw =>
    first
    | exact vw
    | skip
      intro j x y
      by_cases hj : j = k
      · subst hj; (try simp only [up_same]) <;> grind [isGr, isRet, hasW, ungr, getK]
      · try simp only [up_ne hj]
        first | exact vw j x y | (grind [isGr, isRet, hasW, ungr, getK])
  case lw =>
    first
    | exact lw
    | skip
      intro j x y
      by_cases hj : j = k
      · subst hj; (try simp only [up_same]) <;> grind [isGr, isRet, hasW, ungr, getK]
      · try simp only [up_ne hj]
        first | exact lw j x y | (grind [isGr, isRet, hasW, ungr, getK])
  case hw =>
    first
    | exact hw
    | skip
      intro j x y
      by_cases hj : j = k
      · subst hj; (try simp only [up_same]) <;> grind [isGr, isRet, hasW, ungr, getK]
      · try simp only [up_ne hj]
        first | exact hw j x y | (grind [isGr, isRet, hasW, ungr, getK])
  case tw =>
    first
    | exact tw
    | skip
      intro j x y
      by_cases hj : j = k
      · subst hj; (try simp only [up_same]) <;> grind [isGr, isRet, hasW, ungr, getK]
      · try simp only [up_ne hj]
        first | exact tw j x y | (grind [isGr, isRet, hasW, ungr, getK])
  case pw =>
    first
    | exact pw
    | skip
      intro j x y
      by_cases hj : j = k
      · subst hj; (try simp only [up_same]) <;> grind [isGr, isRet, hasW, ungr, getK]
      · try simp only [up_ne hj]
        first | exact pw j x y | (grind [isGr, isRet, hasW, ungr, getK])
  case shn =>
    first
    | exact shn
    | skip
      grind [isGr, isRet, hasW, ungr, getK]
  case shl =>
    first
    | exact shl
    | skip
      intro j
      by_cases hj : j = k
      · subst hj; (try simp only [up_same]) <;> grind [isGr, isRet, hasW, ungr, getK]
      · try simp only [up_ne hj]
        first | exact shl j | (grind [isGr, isRet, hasW, ungr, getK])
  case own =>
    first
    | exact own
    | skip
      intro j
      by_cases hj : j = k
      · subst hj; (try simp only [up_same]) <;> grind [isGr, isRet, hasW, ungr, getK]
      · try simp only [up_ne hj]
        first | exact own j | (grind [isGr, isRet, hasW, ungr, getK])
  case pe =>
    first
    | exact pe
    | skip
      intro j x y
      by_cases hj : j = k
      · subst hj; (try simp only [up_same]) <;> grind [isGr, isRet, hasW, ungr, getK]
      · try simp only [up_ne hj]
        first | exact pe j x y | (grind [isGr, isRet, hasW, ungr, getK])
  case ps =>
    first
    | exact ps
    | skip
      intro j x
      by_cases hj : j = k
      · subst hj; (try simp only [up_same]) <;> grind [isGr, isRet, hasW, ungr, getK]
      · try simp only [up_ne hj]
        first | exact ps j x | (grind [isGr, isRet, hasW, ungr, getK])
  case ox =>
    first
    | exact ox
    | skip
      intro j
      by_cases hj : j = k
      · subst hj; (try simp only [up_same]) <;> grind [isGr, isRet, hasW, ungr, getK]
      · try simp only [up_ne hj]
        first | exact ox j | (grind [isGr, isRet, hasW, ungr, getK])
  case pl =>
    first
    | exact pl
    | skip
      intro j
      by_cases hj : j = k
      · subst hj; (try simp only [up_same]) <;> grind [isGr, isRet, hasW, ungr, getK]
      · try simp only [up_ne hj]
        first | exact pl j | (grind [isGr, isRet, hasW, ungr, getK])
  case rp =>
    first
    | exact rp
    | skip
      intro j x y
      by_cases hj : j = k
      · subst hj; (try simp only [up_same]) <;> grind [isGr, isRet, hasW, ungr, getK]
      · try simp only [up_ne hj]
        first | exact rp j x y | (grind [isGr, isRet, hasW, ungr, getK])
  case cf =>
    first
    | exact cf
    | skip
      intro j
      by_cases hj : j = k
      · subst hj; (try simp only [up_same]) <;> grind [isGr, isRet, hasW, ungr, getK]
      · try simp only [up_ne hj]
        first | exact cf j | (grind [isGr, isRet, hasW, ungr, getK])
  case gs =>
    first
    | exact gs
    | skip
      intro j x
      by_cases hj : j = k
      · subst hj; (try simp only [up_same]) <;> grind [isGr, isRet, hasW, ungr, getK]
      · try simp only [up_ne hj]
        first | exact gs j x | (grind [isGr, isRet, hasW, ungr, getK])
  case ge =>
    first
    | exact ge
    | skip
      intro j x y
      by_cases hj : j = k
      · subst hj; (try simp only [up_same]) <;> grind [isGr, isRet, hasW, ungr, getK]
      · try simp only [up_ne hj]
        first | exact ge j x y | (grind [isGr, isRet, hasW, ungr, getK])
  case ia =>
    first
    | exact ia
    | skip
      intro j
      by_cases hj : j = k
      · subst hj; (try simp only [up_same]) <;> grind [isGr, isRet, hasW, ungr, getK]
      · try simp only [up_ne hj]
        first | exact ia j | (grind [isGr, isRet, hasW, ungr, getK])
  case rt =>
    first
    | exact rt
    | skip
      intro j x y
      by_cases hj : j = k
      · subst hj; (try simp only [up_same]) <;> grind [isGr, isRet, hasW, ungr, getK]
      · try simp only [up_ne hj]
        first | exact rt j x y | (grind [isGr, isRet, hasW, ungr, getK])
  case re =>
    first
    | exact re
    | skip
      intro j s
      by_cases hj : j = k
      · subst hj; (try simp only [up_same]) <;> cases hg : s.gr <;> cases hr : s.rcl <;> grind [isGr, isRet, hasW, ungr, getK]
      · try simp only [up_ne hj]
        first | exact re j s | (cases hg : s.gr <;> cases hr : s.rcl <;> grind [isGr, isRet, hasW, ungr, getK])
theorem t_recallP {k w : Nat} {keep : Bool} {st : S3} (I : LInv n wl a) (hh : a.h k = some (.recall keep)) (hP : a.P k = some (st, w)) (d : Bool) :
    LInv n wl { a with P := up a.P k (if keep = true then some (.S, w) else none), h := up a.h k (some (.returned (some w) d)) } := by
  have J := I
  obtain ⟨s0, e1, e2, e3, e4, e5, e6, e7, e8⟩ := J.at_recall hh
  obtain ⟨p0, p1, p1a, p1b, p2, p2a, p2b, p3, p3a, p3b, p3c, r1, r2, r3, r4, r5, r6, r7, rn, lv, vw, lw, hw, tw, pw, shn, shl, own, pe, ps, ox, pl, rp, cf, gs, ge, ia, rt, re⟩ := I
  constructor
  case p0 =>
    first
    | exact p0
    | skip
      intro j
      by_cases hj : j = k
      · subst hj; (try simp only [up_same]) <;> grind [isGr, isRet, hasW, ungr, getK]
      · try simp only [up_ne hj]
        first | exact p0 j | (grind [isGr, isRet, hasW, ungr, getK])
  case p1 =>
    first
    | exact p1
    | skip
      intro s
      try simp only [up]
      cases hg : s.gr <;> cases hr : s.rcl <;> grind [isGr, isRet, hasW, ungr, getK]
  case p1a =>
    first
    | exact p1a
    | skip
      intro s j
      by_cases hj : j = k
      · subst hj; (try simp only [up_same]) <;> cases hg : s.gr <;> cases hr : s.rcl <;> grind [isGr, isRet, hasW, ungr, getK]
      · try simp only [up_ne hj]
        first | exact p1a s j | (cases hg : s.gr <;> cases hr : s.rcl <;> grind [isGr, isRet, hasW, ungr, getK])
  case p1b =>
    first
    | exact p1b
    | skip
      intro s
      try simp only [up]
      cases hg : s.gr <;> cases hr : s.rcl <;> grind [isGr, isRet, hasW, ungr, getK]
  case p2 =>
    first
    | exact p2
    | skip
      intro s
      try simp only [up]
      cases hg : s.gr <;> cases hr : s.rcl <;> grind [isGr, isRet, hasW, ungr, getK]
  case p2a =>
    first
    | exact p2a
    | skip
      intro s j
      by_cases hj : j = k
      · subst hj; (try simp only [up_same]) <;> cases hg : s.gr <;> cases hr : s.rcl <;> grind [isGr, isRet, hasW, ungr, getK]
      · try simp only [up_ne hj]
        first | exact p2a s j | (cases hg : s.gr <;> cases hr : s.rcl <;> grind [isGr, isRet, hasW, ungr, getK])
  case p2b =>
    first
    | exact p2b
    | skip
      intro s j
      by_cases hj : j = k
      · subst hj; (try simp only [up_same]) <;> cases hg : s.gr <;> cases hr : s.rcl <;> grind [isGr, isRet, hasW, ungr, getK]
      · try simp only [up_ne hj]
        first | exact p2b s j | (cases hg : s.gr <;> cases hr : s.rcl <;> grind [isGr, isRet, hasW, ungr, getK])
  case p3 =>
    first
    | exact p3
    | skip
      intro s
      try simp only [up]
      cases hg : s.gr <;> cases hr : s.rcl <;> grind [isGr, isRet, hasW, ungr, getK]
  case p3a =>
    first
    | exact p3a
    | skip
      intro s j
      by_cases hj : j = k
      · subst hj; (try simp only [up_same]) <;> cases hg : s.gr <;> cases hr : s.rcl <;> grind [isGr, isRet, hasW, ungr, getK]
      · try simp only [up_ne hj]
        first | exact p3a s j | (cases hg : s.gr <;> cases hr : s.rcl <;> grind [isGr, isRet, hasW, ungr, getK])
  case p3b =>
    first
    | exact p3b
    | skip
      intro s j
      by_cases hj : j = k
      · subst hj; (try simp only [up_same]) <;> cases hg : s.gr <;> cases hr : s.rcl <;> grind [isGr, isRet, hasW, ungr, getK]
      · try simp only [up_ne hj]
        first | exact p3b s j | (cases hg : s.gr <;> cases hr : s.rcl <;> grind [isGr, isRet, hasW, ungr, getK])
  case p3c =>
    first
    | exact p3c
    | skip
      intro s j
      by_cases hj : j = k
      · subst hj; (try simp only [up_same]) <;> cases hg : s.gr <;> cases hr : s.rcl <;> grind [isGr, isRet, hasW, ungr, getK]
      · try simp only [up_ne hj]
        first | exact p3c s j | (cases hg : s.gr <;> cases hr : s.rcl <;> grind [isGr, isRet, hasW, ungr, getK])
  case r1 =>
    first
    | exact r1
    | skip
      intro j
      by_cases hj : j = k
      · subst hj; (try simp only [up_same]) <;> grind [isGr, isRet, hasW, ungr, getK]
      · try simp only [up_ne hj]
        first | exact r1 j | (grind [isGr, isRet, hasW, ungr, getK])
  case r2 =>
    first
    | exact r2
    | skip
      intro j
      by_cases hj : j = k
      · subst hj; (try simp only [up_same]) <;> grind [isGr, isRet, hasW, ungr, getK]
      · try simp only [up_ne hj]
        first | exact r2 j | (grind [isGr, isRet, hasW, ungr, getK])
  case r3 =>
    first
    | exact r3
    | skip
      intro s
      try simp only [up]
      cases hg : s.gr <;> cases hr : s.rcl <;> grind [isGr, isRet, hasW, ungr, getK]
  case r4 =>
    first
    | exact r4
    | skip
      intro j
      by_cases hj : j = k
      · subst hj; (try simp only [up_same]) <;> grind [isGr, isRet, hasW, ungr, getK]
      · try simp only [up_ne hj]
        first | exact r4 j | (grind [isGr, isRet, hasW, ungr, getK])
  case r5 =>
    first
    | exact r5
    | skip
      intro j e
      by_cases hj : j = k
      · subst hj; (try simp only [up_same]) <;> grind [isGr, isRet, hasW, ungr, getK]
      · try simp only [up_ne hj]
        first | exact r5 j e | (grind [isGr, isRet, hasW, ungr, getK])
  case r6 =>
    first
    | exact r6
    | skip
      intro j
      by_cases hj : j = k
      · subst hj; (try simp only [up_same]) <;> grind [isGr, isRet, hasW, ungr, getK]
      · try simp only [up_ne hj]
        first | exact r6 j | (grind [isGr, isRet, hasW, ungr, getK])
  case r7 =>
    first
    | exact r7
    | skip
      intro j x y
      by_cases hj : j = k
      · subst hj; (try simp only [up_same]) <;> grind [isGr, isRet, hasW, ungr, getK]
      · try simp only [up_ne hj]
        first | exact r7 j x y | (grind [isGr, isRet, hasW, ungr, getK])
  case rn =>
    first
    | exact rn
    | skip
      intro j
      by_cases hj : j = k
      · subst hj; (try simp only [up_same]) <;> grind [isGr, isRet, hasW, ungr, getK]
      · try simp only [up_ne hj]
        first | exact rn j | (grind [isGr, isRet, hasW, ungr, getK])
  case lv =>
    first
    | exact lv
    | skip
      intro j
      by_cases hj : j = k
      · subst hj; (try simp only [up_same]) <;> grind [isGr, isRet, hasW, ungr, getK]
      · try simp only [up_ne hj]
        first | exact lv j | (grind [isGr, isRet, hasW, ungr, getK])
  case vw =>
    first
    | exact vw
    | skip
      intro j x y
      by_cases hj : j = k
      · subst hj; (try simp only [up_same]) <;> grind [isGr, isRet, hasW, ungr, getK]
      · try simp only [up_ne hj]
        first | exact vw j x y | (grind [isGr, isRet, hasW, ungr, getK])
  case lw =>
    first
    | exact lw
    | skip
      intro j x y
      by_cases hj : j = k
      · subst hj; (try simp only [up_same]) <;> grind [isGr, isRet, hasW, ungr, getK]
      · try simp only [up_ne hj]
        first | exact lw j x y | (grind [isGr, isRet, hasW, ungr, getK])
  case hw =>
    first
    | exact hw
    | skip
      intro j x y
      by_cases hj : j = k
      · subst hj; (try simp only [up_same]) <;> grind [isGr, isRet, hasW, ungr, getK]
      · try simp only [up_ne hj]
        first | exact hw j x y | (grind [isGr, isRet, hasW, ungr, getK])
  case tw =>
    first
    | exact tw
    | skip
      intro j x y
      by_cases hj : j = k
      · subst hj; (try simp only [up_same]) <;> grind [isGr, isRet, hasW, ungr, getK]
      · try simp only [up_ne hj]
        first | exact tw j x y | (grind [isGr, isRet, hasW, ungr, getK])
  case pw =>
    first
    | exact pw
    | skip
      intro j x y
      by_cases hj : j = k
      · subst hj; (try simp only [up_same]) <;> grind [isGr, isRet, hasW, ungr, getK]
      · try simp only [up_ne hj]
        first | exact pw j x y | (grind [isGr, isRet, hasW, ungr, getK])
  case shn =>
    first
    | exact shn
    | skip
      grind [isGr, isRet, hasW, ungr, getK]
  case shl =>
    first
    | exact shl
    | skip
      intro j
      by_cases hj : j = k
      · subst hj; (try simp only [up_same]) <;> grind [isGr, isRet, hasW, ungr, getK]
      · try simp only [up_ne hj]
        first | exact shl j | (grind [isGr, isRet, hasW, ungr, getK])
  case own =>
    first
    | exact own
    | skip
      intro j
      by_cases hj : j = k
      · subst hj; (try simp only [up_same]) <;> grind [isGr, isRet, hasW, ungr, getK]
      · try simp only [up_ne hj]
        first | exact own j | (grind [isGr, isRet, hasW, ungr, getK])
  case pe =>
    first
    | exact pe
    | skip
      intro j x y
      by_cases hj : j = k
      · subst hj; (try simp only [up_same]) <;> grind [isGr, isRet, hasW, ungr, getK]
      · try simp only [up_ne hj]
        first | exact pe j x y | (grind [isGr, isRet, hasW, ungr, getK])
  case ps =>
    first
    | exact ps
    | skip
      intro j x
      by_cases hj : j = k
      · subst hj; (try simp only [up_same]) <;> grind [isGr, isRet, hasW, ungr, getK]
      · try simp only [up_ne hj]
        first | exact ps j x | (grind [isGr, isRet, hasW, ungr, getK])
  case ox =>
    first
    | exact ox
    | skip
      intro j
      by_cases hj : j = k
      · subst hj; (try simp only [up_same]) <;> grind [isGr, isRet, hasW, ungr, getK]
      · try simp only [up_ne hj]
        first | exact ox j | (grind [isGr, isRet, hasW, ungr, getK])
  case pl =>
    first
    | exact pl
    | skip
      intro j
      by_cases hj : j = k
      · subst hj; (try simp only [up_same]) <;> grind [isGr, isRet, hasW, ungr, getK]
      · try simp only [up_ne hj]
        first | exact pl j | (grind [isGr, isRet, hasW, ungr, getK])
  case rp =>
    first
    | exact rp
    | skip
      intro j x y
      by_cases hj : j = k
      · subst hj; (try simp only [up_same]) <;> grind [isGr, isRet, hasW, ungr, getK]
      · try simp only [up_ne hj]
        first | exact rp j x y | (grind [isGr, isRet, hasW, ungr, getK])
  case cf =>
    first
    | exact cf
    | skip
      intro j
      by_cases hj : j = k
      · subst hj; (try simp only [up_same]) <;> grind [isGr, isRet, hasW, ungr, getK]
      · try simp only [up_ne hj]
        first | exact cf j | (grind [isGr, isRet, hasW, ungr, getK])
  case gs =>
    first
    | exact gs
    | skip
      intro j x
      by_cases hj : j = k
      · subst hj; (try simp only [up_same]) <;> grind [isGr, isRet, hasW, ungr, getK]
      · try simp only [up_ne hj]
        first | exact gs j x | (grind [isGr, isRet, hasW, ungr, getK])
  case ge =>
    first
    | exact ge
    | skip
      intro j x y
      by_cases hj : j = k
      · subst hj; (try simp only [up_same]) <;> grind [isGr, isRet, hasW, ungr, getK]
      · try simp only [up_ne hj]
        first | exact ge j x y | (grind [isGr, isRet, hasW, ungr, getK])
  case ia =>
    first
    | exact ia
    | skip
      intro j
      by_cases hj : j = k
      · subst hj; (try simp only [up_same]) <;> grind [isGr, isRet, hasW, ungr, getK]
      · try simp only [up_ne hj]
        first | exact ia j | (grind [isGr, isRet, hasW, ungr, getK])
  case rt =>
    first
    | exact rt
    | skip
      intro j x y
      by_cases hj : j = k
      · subst hj; (try simp only [up_same]) <;> grind [isGr, isRet, hasW, ungr, getK]
      · try simp only [up_ne hj]
        first | exact rt j x y | (grind [isGr, isRet, hasW, ungr, getK])
  case re =>
    first
    | exact re
    | skip
      intro j s
      by_cases hj : j = k
      · subst hj; (try simp only [up_same]) <;> cases hg : s.gr <;> cases hr : s.rcl <;> grind [isGr, isRet, hasW, ungr, getK]
      · try simp only [up_ne hj]
        first | exact re j s | (cases hg : s.gr <;> cases hr : s.rcl <;> grind [isGr, isRet, hasW, ungr, getK])
theorem t_recallL {k : Nat} {w : Option Nat} {keep d : Bool} (I : LInv n wl a) (hh : a.h k = some (.recall keep)) (hP : a.P k = none) (hL : a.L k = some (w, d)) :
    LInv n wl { a with L := up a.L k (some (none, d)), h := up a.h k (some (.returned w d)) } := by
  have J := I
  obtain ⟨s0, e1, e2, e3, e4, e5, e6, e7, e8⟩ := J.at_recall hh
  have hw0 : w = some wl := by
    have h1 := J.ox k e4
    have h2 := J.lw k
    cases w <;> simp_all [hasW, isRet, isGr]
  obtain ⟨p0, p1, p1a, p1b, p2, p2a, p2b, p3, p3a, p3b, p3c, r1, r2, r3, r4, r5, r6, r7, rn, lv, vw, lw, hw, tw, pw, shn, shl, own, pe, ps, ox, pl, rp, cf, gs, ge, ia, rt, re⟩ := I
  constructor
  case p0 =>
    first
    | exact p0
    | skip
      intro j
      by_cases hj : j = k
      · subst hj; (try simp only [up_same]) <;> grind [isGr, isRet, hasW, ungr, getK]
      · try simp only [up_ne hj]
        first | exact p0 j | (grind [isGr, isRet, hasW, ungr, getK])
  case p1 =>
    first
    | exact p1
    | skip
      intro s
      try simp only [up]
      cases hg : s.gr <;> cases hr : s.rcl <;> grind [isGr, isRet, hasW, ungr, getK]
  case p1a =>
    first
    | exact p1a
    | skip
      intro s j
      by_cases hj : j = k
      · subst hj; (try simp only [up_same]) <;> cases hg : s.gr <;> cases hr : s.rcl <;> grind [isGr, isRet, hasW, ungr, getK]
      · try simp only [up_ne hj]
        first | exact p1a s j | (cases hg : s.gr <;> cases hr : s.rcl <;> grind [isGr, isRet, hasW, ungr, getK])
  case p1b =>
    first
    | exact p1b
    | skip
      intro s
      try simp only [up]
      cases hg : s.gr <;> cases hr : s.rcl <;> grind [isGr, isRet, hasW, ungr, getK]
  case p2 =>
    first
    | exact p2
    | skip
      intro s
      try simp only [up]
      cases hg : s.gr <;> cases hr : s.rcl <;> grind [isGr, isRet, hasW, ungr, getK]
  case p2a =>
    first
    | exact p2a
    | skip
      intro s j
      by_cases hj : j = k
      · subst hj; (try simp only [up_same]) <;> cases hg : s.gr <;> cases hr : s.rcl <;> grind [isGr, isRet, hasW, ungr, getK]
      · try simp only [up_ne hj]
        first | exact p2a s j | (cases hg : s.gr <;> cases hr : s.rcl <;> grind [isGr, isRet, hasW, ungr, getK])
  case p2b =>
    first
    | exact p2b
    | skip
      intro s j
      by_cases hj : j = k
      · subst hj; (try simp only [up_same]) <;> cases hg : s.gr <;> cases hr : s.rcl <;> grind [isGr, isRet, hasW, ungr, getK]
      · try simp only [up_ne hj]
        first | exact p2b s j | (cases hg : s.gr <;> cases hr : s.rcl <;> grind [isGr, isRet, hasW, ungr, getK])
  case p3 =>
    first
    | exact p3
    | skip
      intro s
      try simp only [up]
      cases hg : s.gr <;> cases hr : s.rcl <;> grind [isGr, isRet, hasW, ungr, getK]
  case p3a =>
    first
    | exact p3a
    | skip
      intro s j
      by_cases hj : j = k
      · subst hj; (try simp only [up_same]) <;> cases hg : s.gr <;> cases hr : s.rcl <;> grind [isGr, isRet, hasW, ungr, getK]
      · try simp only [up_ne hj]
        first | exact p3a s j | (cases hg : s.gr <;> cases hr : s.rcl <;> grind [isGr, isRet, hasW, ungr, getK])
  case p3b =>
    first
    | exact p3b
    | skip
      intro s j
      by_cases hj : j = k
      · subst hj; (try simp only [up_same]) <;> cases hg : s.gr <;> cases hr : s.rcl <;> grind [isGr, isRet, hasW, ungr, getK]
      · try simp only [up_ne hj]
        first | exact p3b s j | (cases hg : s.gr <;> cases hr : s.rcl <;> grind [isGr, isRet, hasW, ungr, getK])
  case p3c =>
    first
    | exact p3c
    | skip
      intro s j
      by_cases hj : j = k
      · subst hj; (try simp only [up_same]) <;> cases hg : s.gr <;> cases hr : s.rcl <;> grind [isGr, isRet, hasW, ungr, getK]
      · try simp only [up_ne hj]
        first | exact p3c s j | (cases hg : s.gr <;> cases hr : s.rcl <;> grind [isGr, isRet, hasW, ungr, getK])
  case r1 =>
    first
    | exact r1
    | skip
      intro j
      by_cases hj : j = k
      · subst hj; (try simp only [up_same]) <;> grind [isGr, isRet, hasW, ungr, getK]
      · try simp only [up_ne hj]
        first | exact r1 j | (grind [isGr, isRet, hasW, ungr, getK])
  case r2 =>
    first
    | exact r2
    | skip
      intro j
      by_cases hj : j = k
      · subst hj; (try simp only [up_same]) <;> grind [isGr, isRet, hasW, ungr, getK]
      · try simp only [up_ne hj]
        first | exact r2 j | (grind [isGr, isRet, hasW, ungr, getK])
  case r3 =>
    first
    | exact r3
    | skip
      intro s
      try simp only [up]
      cases hg : s.gr <;> cases hr : s.rcl <;> grind [isGr, isRet, hasW, ungr, getK]
  case r4 =>
    first
    | exact r4
    | skip
      intro j
      by_cases hj : j = k
      · subst hj; (try simp only [up_same]) <;> grind [isGr, isRet, hasW, ungr, getK]
      · try simp only [up_ne hj]
        first | exact r4 j | (grind [isGr, isRet, hasW, ungr, getK])
  case r5 =>
    first
    | exact r5
    | skip
      intro j e
      by_cases hj : j = k
      · subst hj; (try simp only [up_same]) <;> grind [isGr, isRet, hasW, ungr, getK]
      · try simp only [up_ne hj]
        first | exact r5 j e | (grind [isGr, isRet, hasW, ungr, getK])
  case r6 =>
    first
    | exact r6
    | skip
      intro j
      by_cases hj : j = k
      · subst hj; (try simp only [up_same]) <;> grind [isGr, isRet, hasW, ungr, getK]
      · try simp only [up_ne hj]
        first | exact r6 j | (grind [isGr, isRet, hasW, ungr, getK])
  case r7 =>
    first
    | exact r7
    | skip
      intro j x y
      by_cases hj : j = k
      · subst hj; (try simp only [up_same]) <;> grind [isGr, isRet, hasW, ungr, getK]
      · try simp only [up_ne hj]
        first | exact r7 j x y | (grind [isGr, isRet, hasW, ungr, getK])
  case rn =>
    first
    | exact rn
    | skip
      intro j
      by_cases hj : j = k
      · subst hj; (try simp only [up_same]) <;> grind [isGr, isRet, hasW, ungr, getK]
      · try simp only [up_ne hj]
        first | exact rn j | (grind [isGr, isRet, hasW, ungr, getK])
  case lv =>
    first
    | exact lv
    | skip
      intro j
      by_cases hj : j = k
      · subst hj; (try simp only [up_same]) <;> grind [isGr, isRet, hasW, ungr, getK]
      · try simp only [up_ne hj]
        first | exact lv j | (grind [isGr, isRet, hasW, ungr, getK])
  case vw =>
    first
    | exact vw
    | skip
      intro j x y
      by_cases hj : j = k
      · subst hj; (try simp only [up_same]) <;> grind [isGr, isRet, hasW, ungr, getK]
      · try simp only [up_ne hj]
        first | exact vw j x y | (grind [isGr, isRet, hasW, ungr, getK])
  case lw =>
    first
    | exact lw
    | skip
      intro j x y
      by_cases hj : j = k
      · subst hj; (try simp only [up_same]) <;> grind [isGr, isRet, hasW, ungr, getK]
      · try simp only [up_ne hj]
        first | exact lw j x y | (grind [isGr, isRet, hasW, ungr, getK])
  case hw =>
    first
    | exact hw
    | skip
      intro j x y
      by_cases hj : j = k
      · subst hj; (try simp only [up_same]) <;> grind [isGr, isRet, hasW, ungr, getK]
      · try simp only [up_ne hj]
        first | exact hw j x y | (grind [isGr, isRet, hasW, ungr, getK])
  case tw =>
    first
    | exact tw
    | skip
      intro j x y
      by_cases hj : j = k
      · subst hj; (try simp only [up_same]) <;> grind [isGr, isRet, hasW, ungr, getK]
      · try simp only [up_ne hj]
        first | exact tw j x y | (grind [isGr, isRet, hasW, ungr, getK])
  case pw =>
    first
    | exact pw
    | skip
      intro j x y
      by_cases hj : j = k
      · subst hj; (try simp only [up_same]) <;> grind [isGr, isRet, hasW, ungr, getK]
      · try simp only [up_ne hj]
        first | exact pw j x y | (grind [isGr, isRet, hasW, ungr, getK])
  case shn =>
    first
    | exact shn
    | skip
      grind [isGr, isRet, hasW, ungr, getK]
  case shl =>
    first
    | exact shl
    | skip
      intro j
      by_cases hj : j = k
      · subst hj; (try simp only [up_same]) <;> grind [isGr, isRet, hasW, ungr, getK]
      · try simp only [up_ne hj]
        first | exact shl j | (grind [isGr, isRet, hasW, ungr, getK])
  case own =>
    first
    | exact own
    | skip
      intro j
      by_cases hj : j = k
      · subst hj; (try simp only [up_same]) <;> grind [isGr, isRet, hasW, ungr, getK]
      · try simp only [up_ne hj]
        first | exact own j | (grind [isGr, isRet, hasW, ungr, getK])
  case pe =>
    first
    | exact pe
    | skip
      intro j x y
      by_cases hj : j = k
      · subst hj; (try simp only [up_same]) <;> grind [isGr, isRet, hasW, ungr, getK]
      · try simp only [up_ne hj]
        first | exact pe j x y | (grind [isGr, isRet, hasW, ungr, getK])
  case ps =>
    first
    | exact ps
    | skip
      intro j x
      by_cases hj : j = k
      · subst hj; (try simp only [up_same]) <;> grind [isGr, isRet, hasW, ungr, getK]
      · try simp only [up_ne hj]
        first | exact ps j x | (grind [isGr, isRet, hasW, ungr, getK])
  case ox =>
    first
    | exact ox
    | skip
      intro j
      by_cases hj : j = k
      · subst hj; (try simp only [up_same]) <;> grind [isGr, isRet, hasW, ungr, getK]
      · try simp only [up_ne hj]
        first | exact ox j | (grind [isGr, isRet, hasW, ungr, getK])
  case pl =>
    first
    | exact pl
    | skip
      intro j
      by_cases hj : j = k
      · subst hj; (try simp only [up_same]) <;> grind [isGr, isRet, hasW, ungr, getK]
      · try simp only [up_ne hj]
        first | exact pl j | (grind [isGr, isRet, hasW, ungr, getK])
  case rp =>
    first
    | exact rp
    | skip
      intro j x y
      by_cases hj : j = k
      · subst hj; (try simp only [up_same]) <;> grind [isGr, isRet, hasW, ungr, getK]
      · try simp only [up_ne hj]
        first | exact rp j x y | (grind [isGr, isRet, hasW, ungr, getK])
  case cf =>
    first
    | exact cf
    | skip
      intro j
      by_cases hj : j = k
      · subst hj; (try simp only [up_same]) <;> grind [isGr, isRet, hasW, ungr, getK]
      · try simp only [up_ne hj]
        first | exact cf j | (grind [isGr, isRet, hasW, ungr, getK])
  case gs =>
    first
    | exact gs
    | skip
      intro j x
      by_cases hj : j = k
      · subst hj; (try simp only [up_same]) <;> grind [isGr, isRet, hasW, ungr, getK]
      · try simp only [up_ne hj]
        first | exact gs j x | (grind [isGr, isRet, hasW, ungr, getK])
  case ge =>
    first
    | exact ge
    | skip
      intro j x y
      by_cases hj : j = k
      · subst hj; (try simp only [up_same]) <;> grind [isGr, isRet, hasW, ungr, getK]
      · try simp only [up_ne hj]
        first | exact ge j x y | (grind [isGr, isRet, hasW, ungr, getK])
  case ia =>
    first
    | exact ia
    | skip
      intro j
      by_cases hj : j = k
      · subst hj; (try simp only [up_same]) <;> grind [isGr, isRet, hasW, ungr, getK]
      · try simp only [up_ne hj]
        first | exact ia j | (grind [isGr, isRet, hasW, ungr, getK])
  case rt =>
    first
    | exact rt
    | skip
      intro j x y
      by_cases hj : j = k
      · subst hj; (try simp only [up_same]) <;> grind [isGr, isRet, hasW, ungr, getK]
      · try simp only [up_ne hj]
        first | exact rt j x y | (grind [isGr, isRet, hasW, ungr, getK])
  case re =>
    first
    | exact re
    | skip
      intro j s
      by_cases hj : j = k
      · subst hj; (try simp only [up_same]) <;> cases hg : s.gr <;> cases hr : s.rcl <;> grind [isGr, isRet, hasW, ungr, getK]
      · try simp only [up_ne hj]
        first | exact re j s | (cases hg : s.gr <;> cases hr : s.rcl <;> grind [isGr, isRet, hasW, ungr, getK])
theorem t_inval {k : Nat} (I : LInv n wl a) (hh : a.h k = some .inval) :
    LInv n wl { a with P := up a.P k none, h := up a.h k (some .invald) } := by
  have J := I
  obtain ⟨s0, e1, e2, e3, e4, e5, e6, e7⟩ := J.at_inval (.inl hh)
  obtain ⟨p0, p1, p1a, p1b, p2, p2a, p2b, p3, p3a, p3b, p3c, r1, r2, r3, r4, r5, r6, r7, rn, lv, vw, lw, hw, tw, pw, shn, shl, own, pe, ps, ox, pl, rp, cf, gs, ge, ia, rt, re⟩ := I
  constructor
  case p0 =>
    first
    | exact p0
    | skip
      intro j
      by_cases hj : j = k
      · subst hj; (try simp only [up_same]) <;> grind [isGr, isRet, hasW, ungr, getK]
      · try simp only [up_ne hj]
        first | exact p0 j | (grind [isGr, isRet, hasW, ungr, getK])
  case p1 =>
    first
    | exact p1
    | skip
      intro s
      try simp only [up]
      cases hg : s.gr <;> cases hr : s.rcl <;> grind [isGr, isRet, hasW, ungr, getK]
  case p1a =>
    first
    | exact p1a
    | skip
      intro s j
      by_cases hj : j = k
      · subst hj; (try simp only [up_same]) <;> cases hg : s.gr <;> cases hr : s.rcl <;> grind [isGr, isRet, hasW, ungr, getK]
      · try simp only [up_ne hj]
        first | exact p1a s j | (cases hg : s.gr <;> cases hr : s.rcl <;> grind [isGr, isRet, hasW, ungr, getK])
  case p1b =>
    first
    | exact p1b
    | skip
      intro s
      try simp only [up]
      cases hg : s.gr <;> cases hr : s.rcl <;> grind [isGr, isRet, hasW, ungr, getK]
  case p2 =>
    first
    | exact p2
    | skip
      intro s
      try simp only [up]
      cases hg : s.gr <;> cases hr : s.rcl <;> grind [isGr, isRet, hasW, ungr, getK]
  case p2a =>
    first
    | exact p2a
    | skip
      intro s j
      by_cases hj : j = k
      · subst hj; (try simp only [up_same]) <;> cases hg : s.gr <;> cases hr : s.rcl <;> grind [isGr, isRet, hasW, ungr, getK]
      · try simp only [up_ne hj]
        first | exact p2a s j | (cases hg : s.gr <;> cases hr : s.rcl <;> grind [isGr, isRet, hasW, ungr, getK])
  case p2b =>
    first
    | exact p2b
    | skip
      intro s j
      by_cases hj : j = k
      · subst hj; (try simp only [up_same]) <;> cases hg : s.gr <;> cases hr : s.rcl <;> grind [isGr, isRet, hasW, ungr, getK]
      · try simp only [up_ne hj]
        first | exact p2b s j | (cases hg : s.gr <;> cases hr : s.rcl <;> grind [isGr, isRet, hasW, ungr, getK])
  case p3 =>
    first
    | exact p3
    | skip
      intro s
      try simp only [up]
      cases hg : s.gr <;> cases hr : s.rcl <;> grind [isGr, isRet, hasW, ungr, getK]
  case p3a =>
    first
    | exact p3a
    | skip
      intro s j
      by_cases hj : j = k
      · subst hj; (try simp only [up_same]) <;> cases hg : s.gr <;> cases hr : s.rcl <;> grind [isGr, isRet, hasW, ungr, getK]
      · try simp only [up_ne hj]
        first | exact p3a s j | (cases hg : s.gr <;> cases hr : s.rcl <;> grind [isGr, isRet, hasW, ungr, getK])
  case p3b =>
    first
    | exact p3b
    | skip
      intro s j
      by_cases hj : j = k
      · subst hj; (try simp only [up_same]) <;> cases hg : s.gr <;> cases hr : s.rcl <;> grind [isGr, isRet, hasW, ungr, getK]
      · try simp only [up_ne hj]
        first | exact p3b s j | (cases hg : s.gr <;> cases hr : s.rcl <;> grind [isGr, isRet, hasW, ungr, getK])
  case p3c =>
    first
    | exact p3c
    | skip
      intro s j
      by_cases hj : j = k
      · subst hj; (try simp only [up_same]) <;> cases hg : s.gr <;> cases hr : s.rcl <;> grind [isGr, isRet, hasW, ungr, getK]
      · try simp only [up_ne hj]
        first | exact p3c s j | (cases hg : s.gr <;> cases hr : s.rcl <;> grind [isGr, isRet, hasW, ungr, getK])
  case r1 =>
    first
    | exact r1
    | skip
      intro j
      by_cases hj : j = k
      · subst hj; (try simp only [up_same]) <;> grind [isGr, isRet, hasW, ungr, getK]
      · try simp only [up_ne hj]
        first | exact r1 j | (grind [isGr, isRet, hasW, ungr, getK])
  case r2 =>
    first
    | exact r2
    | skip
      intro j
      by_cases hj : j = k
      · subst hj; (try simp only [up_same]) <;> grind [isGr, isRet, hasW, ungr, getK]
      · try simp only [up_ne hj]
        first | exact r2 j | (grind [isGr, isRet, hasW, ungr, getK])
  case r3 =>
    first
    | exact r3
    | skip
      intro s
      try simp only [up]
      cases hg : s.gr <;> cases hr : s.rcl <;> grind [isGr, isRet, hasW, ungr, getK]
  case r4 =>
    first
    | exact r4
    | skip
      intro j
      by_cases hj : j = k
      · subst hj; (try simp only [up_same]) <;> grind [isGr, isRet, hasW, ungr, getK]
      · try simp only [up_ne hj]
        first | exact r4 j | (grind [isGr, isRet, hasW, ungr, getK])
  case r5 =>
    first
    | exact r5
    | skip
      intro j e
      by_cases hj : j = k
      · subst hj; (try simp only [up_same]) <;> grind [isGr, isRet, hasW, ungr, getK]
      · try simp only [up_ne hj]
        first | exact r5 j e | (grind [isGr, isRet, hasW, ungr, getK])
  case r6 =>
    first
    | exact r6
    | skip
      intro j
      by_cases hj : j = k
      · subst hj; (try simp only [up_same]) <;> grind [isGr, isRet, hasW, ungr, getK]
      · try simp only [up_ne hj]
        first | exact r6 j | (grind [isGr, isRet, hasW, ungr, getK])
  case r7 =>
    first
    | exact r7
    | skip
      intro j x y
      by_cases hj : j = k
      · subst hj; (try simp only [up_same]) <;> grind [isGr, isRet, hasW, ungr, getK]
      · try simp only [up_ne hj]
        first | exact r7 j x y | (grind [isGr, isRet, hasW, ungr, getK])
  case rn =>
    first
    | exact rn
    | skip
      intro j
      by_cases hj : j = k
      · subst hj; (try simp only [up_same]) <;> grind [isGr, isRet, hasW, ungr, getK]
      · try simp only [up_ne hj]
        first | exact rn j | (grind [isGr, isRet, hasW, ungr, getK])
  case lv =>
    first
    | exact lv
    | skip
      intro j
      by_cases hj : j = k
      · subst hj; (try simp only [up_same]) <;> grind [isGr, isRet, hasW, ungr, getK]
      · try simp only [up_ne hj]
        first | exact lv j | (grind [isGr, isRet, hasW, ungr, getK])
  case vw =>
    first
    | exact vw
    | skip
      intro j x y
      by_cases hj : j = k
      · subst hj; (try simp only [up_same]) <;> grind [isGr, isRet, hasW, ungr, getK]
      · try simp only [up_ne hj]
        first | exact vw j x y | (grind [isGr, isRet, hasW, ungr, getK])
  case lw =>
    first
    | exact lw
    | skip
      intro j x y
      by_cases hj : j = k
      · subst hj; (try simp only [up_same]) <;> grind [isGr, isRet, hasW, ungr, getK]
      · try simp only [up_ne hj]
        first | exact lw j x y | (grind [isGr, isRet, hasW, ungr, getK])
  case hw =>
    first
    | exact hw
    | skip
      intro j x y
      by_cases hj : j = k
      · subst hj; (try simp only [up_same]) <;> grind [isGr, isRet, hasW, ungr, getK]
      · try simp only [up_ne hj]
        first | exact hw j x y | (grind [isGr, isRet, hasW, ungr, getK])
  case tw =>
    first
    | exact tw
    | skip
      intro j x y
      by_cases hj : j = k
      · subst hj; (try simp only [up_same]) <;> grind [isGr, isRet, hasW, ungr, getK]
      · try simp only [up_ne hj]
        first | exact tw j x y | (grind [isGr, isRet, hasW, ungr, getK])
  case pw =>
    first
    | exact pw
    | skip
      intro j x y
      by_cases hj : j = k
      · subst hj; (try simp only [up_same]) <;> grind [isGr, isRet, hasW, ungr, getK]
      · try simp only [up_ne hj]
        first | exact pw j x y | (grind [isGr, isRet, hasW, ungr, getK])
  case shn =>
    first
    | exact shn
    | skip
      grind [isGr, isRet, hasW, ungr, getK]
  case shl =>
    first
    | exact shl
    | skip
      intro j
      by_cases hj : j = k
      · subst hj; (try simp only [up_same]) <;> grind [isGr, isRet, hasW, ungr, getK]
      · try simp only [up_ne hj]
        first | exact shl j | (grind [isGr, isRet, hasW, ungr, getK])
  case own =>
    first
    | exact own
    | skip
      intro j
      by_cases hj : j = k
      · subst hj; (try simp only [up_same]) <;> grind [isGr, isRet, hasW, ungr, getK]
      · try simp only [up_ne hj]
        first | exact own j | (grind [isGr, isRet, hasW, ungr, getK])
  case pe =>
    first
    | exact pe
    | skip
      intro j x y
      by_cases hj : j = k
      · subst hj; (try simp only [up_same]) <;> grind [isGr, isRet, hasW, ungr, getK]
      · try simp only [up_ne hj]
        first | exact pe j x y | (grind [isGr, isRet, hasW, ungr, getK])
  case ps =>
    first
    | exact ps
    | skip
      intro j x
      by_cases hj : j = k
      · subst hj; (try simp only [up_same]) <;> grind [isGr, isRet, hasW, ungr, getK]
      · try simp only [up_ne hj]
        first | exact ps j x | (grind [isGr, isRet, hasW, ungr, getK])
  case ox =>
    first
    | exact ox
    | skip
      intro j
      by_cases hj : j = k
      · subst hj; (try simp only [up_same]) <;> grind [isGr, isRet, hasW, ungr, getK]
      · try simp only [up_ne hj]
        first | exact ox j | (grind [isGr, isRet, hasW, ungr, getK])
  case pl =>
    first
    | exact pl
    | skip
      intro j
      by_cases hj : j = k
      · subst hj; (try simp only [up_same]) <;> grind [isGr, isRet, hasW, ungr, getK]
      · try simp only [up_ne hj]
        first | exact pl j | (grind [isGr, isRet, hasW, ungr, getK])
  case rp =>
    first
    | exact rp
    | skip
      intro j x y
      by_cases hj : j = k
      · subst hj; (try simp only [up_same]) <;> grind [isGr, isRet, hasW, ungr, getK]
      · try simp only [up_ne hj]
        first | exact rp j x y | (grind [isGr, isRet, hasW, ungr, getK])
  case cf =>
    first
    | exact cf
    | skip
      intro j
      by_cases hj : j = k
      · subst hj; (try simp only [up_same]) <;> grind [isGr, isRet, hasW, ungr, getK]
      · try simp only [up_ne hj]
        first | exact cf j | (grind [isGr, isRet, hasW, ungr, getK])
  case gs =>
    first
    | exact gs
    | skip
      intro j x
      by_cases hj : j = k
      · subst hj; (try simp only [up_same]) <;> grind [isGr, isRet, hasW, ungr, getK]
      · try simp only [up_ne hj]
        first | exact gs j x | (grind [isGr, isRet, hasW, ungr, getK])
  case ge =>
    first
    | exact ge
    | skip
      intro j x y
      by_cases hj : j = k
      · subst hj; (try simp only [up_same]) <;> grind [isGr, isRet, hasW, ungr, getK]
      · try simp only [up_ne hj]
        first | exact ge j x y | (grind [isGr, isRet, hasW, ungr, getK])
  case ia =>
    first
    | exact ia
    | skip
      intro j
      by_cases hj : j = k
      · subst hj; (try simp only [up_same]) <;> grind [isGr, isRet, hasW, ungr, getK]
      · try simp only [up_ne hj]
        first | exact ia j | (grind [isGr, isRet, hasW, ungr, getK])
  case rt =>
    first
    | exact rt
    | skip
      intro j x y
      by_cases hj : j = k
      · subst hj; (try simp only [up_same]) <;> grind [isGr, isRet, hasW, ungr, getK]
      · try simp only [up_ne hj]
        first | exact rt j x y | (grind [isGr, isRet, hasW, ungr, getK])
  case re =>
    first
    | exact re
    | skip
      intro j s
      by_cases hj : j = k
      · subst hj; (try simp only [up_same]) <;> cases hg : s.gr <;> cases hr : s.rcl <;> grind [isGr, isRet, hasW, ungr, getK]
      · try simp only [up_ne hj]
        first | exact re j s | (cases hg : s.gr <;> cases hr : s.rcl <;> grind [isGr, isRet, hasW, ungr, getK])
theorem t_grant {k w : Nat} {st : S3} (I : LInv n wl a) (hh : a.h k = some (.grant st w)) :
    LInv n wl { a with P := up a.P k (some (st, w)), R := up a.R k none, h := up a.h k (some .received) } := by
  have J := I
  obtain ⟨s0, e1, e2, e3, e4, e5⟩ := J.at_grant hh
  obtain ⟨p0, p1, p1a, p1b, p2, p2a, p2b, p3, p3a, p3b, p3c, r1, r2, r3, r4, r5, r6, r7, rn, lv, vw, lw, hw, tw, pw, shn, shl, own, pe, ps, ox, pl, rp, cf, gs, ge, ia, rt, re⟩ := I
  constructor
  case p0 =>
    first
    | exact p0
    | skip
      intro j
      by_cases hj : j = k
      · subst hj; (try simp only [up_same]) <;> grind [isGr, isRet, hasW, ungr, getK]
      · try simp only [up_ne hj]
        first | exact p0 j | (grind [isGr, isRet, hasW, ungr, getK])
  case p1 =>
    first
    | exact p1
    | skip
      intro s
      try simp only [up]
      cases hg : s.gr <;> cases hr : s.rcl <;> grind [isGr, isRet, hasW, ungr, getK]
  case p1a =>
    first
    | exact p1a
    | skip
      intro s j
      by_cases hj : j = k
      · subst hj; (try simp only [up_same]) <;> cases hg : s.gr <;> cases hr : s.rcl <;> grind [isGr, isRet, hasW, ungr, getK]
      · try simp only [up_ne hj]
        first | exact p1a s j | (cases hg : s.gr <;> cases hr : s.rcl <;> grind [isGr, isRet, hasW, ungr, getK])
  case p1b =>
    first
    | exact p1b
    | skip
      intro s
      try simp only [up]
      cases hg : s.gr <;> cases hr : s.rcl <;> grind [isGr, isRet, hasW, ungr, getK]
  case p2 =>
    first
    | exact p2
    | skip
      intro s
      try simp only [up]
      cases hg : s.gr <;> cases hr : s.rcl <;> grind [isGr, isRet, hasW, ungr, getK]
  case p2a =>
    first
    | exact p2a
    | skip
      intro s j
      by_cases hj : j = k
      · subst hj; (try simp only [up_same]) <;> cases hg : s.gr <;> cases hr : s.rcl <;> grind [isGr, isRet, hasW, ungr, getK]
      · try simp only [up_ne hj]
        first | exact p2a s j | (cases hg : s.gr <;> cases hr : s.rcl <;> grind [isGr, isRet, hasW, ungr, getK])
  case p2b =>
    first
    | exact p2b
    | skip
      intro s j
      by_cases hj : j = k
      · subst hj; (try simp only [up_same]) <;> cases hg : s.gr <;> cases hr : s.rcl <;> grind [isGr, isRet, hasW, ungr, getK]
      · try simp only [up_ne hj]
        first | exact p2b s j | (cases hg : s.gr <;> cases hr : s.rcl <;> grind [isGr, isRet, hasW, ungr, getK])
  case p3 =>
    first
    | exact p3
    | skip
      intro s
      try simp only [up]
      cases hg : s.gr <;> cases hr : s.rcl <;> grind [isGr, isRet, hasW, ungr, getK]
  case p3a =>
    first
    | exact p3a
    | skip
      intro s j
      by_cases hj : j = k
      · subst hj; (try simp only [up_same]) <;> cases hg : s.gr <;> cases hr : s.rcl <;> grind [isGr, isRet, hasW, ungr, getK]
      · try simp only [up_ne hj]
        first | exact p3a s j | (cases hg : s.gr <;> cases hr : s.rcl <;> grind [isGr, isRet, hasW, ungr, getK])
  case p3b =>
    first
    | exact p3b
    | skip
      intro s j
      by_cases hj : j = k
      · subst hj; (try simp only [up_same]) <;> cases hg : s.gr <;> cases hr : s.rcl <;> grind [isGr, isRet, hasW, ungr, getK]
      · try simp only [up_ne hj]
        first | exact p3b s j | (cases hg : s.gr <;> cases hr : s.rcl <;> grind [isGr, isRet, hasW, ungr, getK])
  case p3c =>
    first
    | exact p3c
    | skip
      intro s j
      by_cases hj : j = k
      · subst hj; (try simp only [up_same]) <;> cases hg : s.gr <;> cases hr : s.rcl <;> grind [isGr, isRet, hasW, ungr, getK]
      · try simp only [up_ne hj]
        first | exact p3c s j | (cases hg : s.gr <;> cases hr : s.rcl <;> grind [isGr, isRet, hasW, ungr, getK])
  case r1 =>
    first
    | exact r1
    | skip
      intro j
      by_cases hj : j = k
      · subst hj; (try simp only [up_same]) <;> grind [isGr, isRet, hasW, ungr, getK]
      · try simp only [up_ne hj]
        first | exact r1 j | (grind [isGr, isRet, hasW, ungr, getK])
  case r2 =>
    first
    | exact r2
    | skip
      intro j
      by_cases hj : j = k
      · subst hj; (try simp only [up_same]) <;> grind [isGr, isRet, hasW, ungr, getK]
      · try simp only [up_ne hj]
        first | exact r2 j | (grind [isGr, isRet, hasW, ungr, getK])
  case r3 =>
    first
    | exact r3
    | skip
      intro s
      try simp only [up]
      cases hg : s.gr <;> cases hr : s.rcl <;> grind [isGr, isRet, hasW, ungr, getK]
  case r4 =>
    first
    | exact r4
    | skip
      intro j
      by_cases hj : j = k
      · subst hj; (try simp only [up_same]) <;> grind [isGr, isRet, hasW, ungr, getK]
      · try simp only [up_ne hj]
        first | exact r4 j | (grind [isGr, isRet, hasW, ungr, getK])
  case r5 =>
    first
    | exact r5
    | skip
      intro j e
      by_cases hj : j = k
      · subst hj; (try simp only [up_same]) <;> grind [isGr, isRet, hasW, ungr, getK]
      · try simp only [up_ne hj]
        first | exact r5 j e | (grind [isGr, isRet, hasW, ungr, getK])
  case r6 =>
    first
    | exact r6
    | skip
      intro j
      by_cases hj : j = k
      · subst hj; (try simp only [up_same]) <;> grind [isGr, isRet, hasW, ungr, getK]
      · try simp only [up_ne hj]
        first | exact r6 j | (grind [isGr, isRet, hasW, ungr, getK])
  case r7 =>
    first
    | exact r7
    | skip
      intro j x y
      by_cases hj : j = k
      · subst hj; (try simp only [up_same]) <;> grind [isGr, isRet, hasW, ungr, getK]
      · try simp only [up_ne hj]
        first | exact r7 j x y | (grind [isGr, isRet, hasW, ungr, getK])
  case rn =>
    first
    | exact rn
    | skip
      intro j
      by_cases hj : j = k
      · subst hj; (try simp only [up_same]) <;> grind [isGr, isRet, hasW, ungr, getK]
      · try simp only [up_ne hj]
        first | exact rn j | (grind [isGr, isRet, hasW, ungr, getK])
  case lv =>
    first
    | exact lv
    | skip
      intro j
      by_cases hj : j = k
      · subst hj; (try simp only [up_same]) <;> grind [isGr, isRet, hasW, ungr, getK]
      · try simp only [up_ne hj]
        first | exact lv j | (grind [isGr, isRet, hasW, ungr, getK])
  case vw =>
    first
    | exact vw
    | skip
      intro j x y
      by_cases hj : j = k
      · subst hj; (try simp only [up_same]) <;> grind [isGr, isRet, hasW, ungr, getK]
      · try simp only [up_ne hj]
        first | exact vw j x y | (grind [isGr, isRet, hasW, ungr, getK])
  case lw =>
    first
    | exact lw
    | skip
      intro j x y
      by_cases hj : j = k
      · subst hj; (try simp only [up_same]) <;> grind [isGr, isRet, hasW, ungr, getK]
      · try simp only [up_ne hj]
        first | exact lw j x y | (grind [isGr, isRet, hasW, ungr, getK])
  case hw =>
    first
    | exact hw
    | skip
      intro j x y
      by_cases hj : j = k
      · subst hj; (try simp only [up_same]) <;> grind [isGr, isRet, hasW, ungr, getK]
      · try simp only [up_ne hj]
        first | exact hw j x y | (grind [isGr, isRet, hasW, ungr, getK])
  case tw =>
    first
    | exact tw
    | skip
      intro j x y
      by_cases hj : j = k
      · subst hj; (try simp only [up_same]) <;> grind [isGr, isRet, hasW, ungr, getK]
      · try simp only [up_ne hj]
        first | exact tw j x y | (grind [isGr, isRet, hasW, ungr, getK])
  case pw =>
    first
    | exact pw
    | skip
      intro j x y
      by_cases hj : j = k
      · subst hj; (try simp only [up_same]) <;> grind [isGr, isRet, hasW, ungr, getK]
      · try simp only [up_ne hj]
        first | exact pw j x y | (grind [isGr, isRet, hasW, ungr, getK])
  case shn =>
    first
    | exact shn
    | skip
      grind [isGr, isRet, hasW, ungr, getK]
  case shl =>
    first
    | exact shl
    | skip
      intro j
      by_cases hj : j = k
      · subst hj; (try simp only [up_same]) <;> grind [isGr, isRet, hasW, ungr, getK]
      · try simp only [up_ne hj]
        first | exact shl j | (grind [isGr, isRet, hasW, ungr, getK])
  case own =>
    first
    | exact own
    | skip
      intro j
      by_cases hj : j = k
      · subst hj; (try simp only [up_same]) <;> grind [isGr, isRet, hasW, ungr, getK]
      · try simp only [up_ne hj]
        first | exact own j | (grind [isGr, isRet, hasW, ungr, getK])
  case pe =>
    first
    | exact pe
    | skip
      intro j x y
      by_cases hj : j = k
      · subst hj; (try simp only [up_same]) <;> grind [isGr, isRet, hasW, ungr, getK]
      · try simp only [up_ne hj]
        first | exact pe j x y | (grind [isGr, isRet, hasW, ungr, getK])
  case ps =>
    first
    | exact ps
    | skip
      intro j x
      by_cases hj : j = k
      · subst hj; (try simp only [up_same]) <;> grind [isGr, isRet, hasW, ungr, getK]
      · try simp only [up_ne hj]
        first | exact ps j x | (grind [isGr, isRet, hasW, ungr, getK])
  case ox =>
    first
    | exact ox
    | skip
      intro j
      by_cases hj : j = k
      · subst hj; (try simp only [up_same]) <;> grind [isGr, isRet, hasW, ungr, getK]
      · try simp only [up_ne hj]
        first | exact ox j | (grind [isGr, isRet, hasW, ungr, getK])
  case pl =>
    first
    | exact pl
    | skip
      intro j
      by_cases hj : j = k
      · subst hj; (try simp only [up_same]) <;> grind [isGr, isRet, hasW, ungr, getK]
      · try simp only [up_ne hj]
        first | exact pl j | (grind [isGr, isRet, hasW, ungr, getK])
  case rp =>
    first
    | exact rp
    | skip
      intro j x y
      by_cases hj : j = k
      · subst hj; (try simp only [up_same]) <;> grind [isGr, isRet, hasW, ungr, getK]
      · try simp only [up_ne hj]
        first | exact rp j x y | (grind [isGr, isRet, hasW, ungr, getK])
  case cf =>
    first
    | exact cf
    | skip
      intro j
      by_cases hj : j = k
      · subst hj; (try simp only [up_same]) <;> grind [isGr, isRet, hasW, ungr, getK]
      · try simp only [up_ne hj]
        first | exact cf j | (grind [isGr, isRet, hasW, ungr, getK])
  case gs =>
    first
    | exact gs
    | skip
      intro j x
      by_cases hj : j = k
      · subst hj; (try simp only [up_same]) <;> grind [isGr, isRet, hasW, ungr, getK]
      · try simp only [up_ne hj]
        first | exact gs j x | (grind [isGr, isRet, hasW, ungr, getK])
  case ge =>
    first
    | exact ge
    | skip
      intro j x y
      by_cases hj : j = k
      · subst hj; (try simp only [up_same]) <;> grind [isGr, isRet, hasW, ungr, getK]
      · try simp only [up_ne hj]
        first | exact ge j x y | (grind [isGr, isRet, hasW, ungr, getK])
  case ia =>
    first
    | exact ia
    | skip
      intro j
      by_cases hj : j = k
      · subst hj; (try simp only [up_same]) <;> grind [isGr, isRet, hasW, ungr, getK]
      · try simp only [up_ne hj]
        first | exact ia j | (grind [isGr, isRet, hasW, ungr, getK])
  case rt =>
    first
    | exact rt
    | skip
      intro j x y
      by_cases hj : j = k
      · subst hj; (try simp only [up_same]) <;> grind [isGr, isRet, hasW, ungr, getK]
      · try simp only [up_ne hj]
        first | exact rt j x y | (grind [isGr, isRet, hasW, ungr, getK])
  case re =>
    first
    | exact re
    | skip
      intro j s
      by_cases hj : j = k
      · subst hj; (try simp only [up_same]) <;> cases hg : s.gr <;> cases hr : s.rcl <;> grind [isGr, isRet, hasW, ungr, getK]
      · try simp only [up_ne hj]
        first | exact re j s | (cases hg : s.gr <;> cases hr : s.rcl <;> grind [isGr, isRet, hasW, ungr, getK])
theorem t_received {k : Nat} (I : LInv n wl a) (hh : a.h k = some .received) :
    LInv n wl { a with sv := none, h := up a.h k none } := by
  have J := I
  obtain ⟨s0, e1, e2, e3⟩ := J.at_received hh
  obtain ⟨p0, p1, p1a, p1b, p2, p2a, p2b, p3, p3a, p3b, p3c, r1, r2, r3, r4, r5, r6, r7, rn, lv, vw, lw, hw, tw, pw, shn, shl, own, pe, ps, ox, pl, rp, cf, gs, ge, ia, rt, re⟩ := I
  constructor
  case p0 =>
    first
    | exact p0
    | skip
      intro j
      by_cases hj : j = k
      · subst hj; (try simp only [up_same]) <;> grind [isGr, isRet, hasW, ungr, getK]
      · try simp only [up_ne hj]
        first | exact p0 j | (grind [isGr, isRet, hasW, ungr, getK])
  case p1 =>
    first
    | exact p1
    | skip
      intro s
      try simp only [up]
      cases hg : s.gr <;> cases hr : s.rcl <;> grind [isGr, isRet, hasW, ungr, getK]
  case p1a =>
    first
    | exact p1a
    | skip
      intro s j
      by_cases hj : j = k
      · subst hj; (try simp only [up_same]) <;> cases hg : s.gr <;> cases hr : s.rcl <;> grind [isGr, isRet, hasW, ungr, getK]
      · try simp only [up_ne hj]
        first | exact p1a s j | (cases hg : s.gr <;> cases hr : s.rcl <;> grind [isGr, isRet, hasW, ungr, getK])
  case p1b =>
    first
    | exact p1b
    | skip
      intro s
      try simp only [up]
      cases hg : s.gr <;> cases hr : s.rcl <;> grind [isGr, isRet, hasW, ungr, getK]
  case p2 =>
    first
    | exact p2
    | skip
      intro s
      try simp only [up]
      cases hg : s.gr <;> cases hr : s.rcl <;> grind [isGr, isRet, hasW, ungr, getK]
  case p2a =>
    first
    | exact p2a
    | skip
      intro s j
      by_cases hj : j = k
      · subst hj; (try simp only [up_same]) <;> cases hg : s.gr <;> cases hr : s.rcl <;> grind [isGr, isRet, hasW, ungr, getK]
      · try simp only [up_ne hj]
        first | exact p2a s j | (cases hg : s.gr <;> cases hr : s.rcl <;> grind [isGr, isRet, hasW, ungr, getK])
  case p2b =>
    first
    | exact p2b
    | skip
      intro s j
      by_cases hj : j = k
      · subst hj; (try simp only [up_same]) <;> cases hg : s.gr <;> cases hr : s.rcl <;> grind [isGr, isRet, hasW, ungr, getK]
      · try simp only [up_ne hj]
        first | exact p2b s j | (cases hg : s.gr <;> cases hr : s.rcl <;> grind [isGr, isRet, hasW, ungr, getK])
  case p3 =>
    first
    | exact p3
    | skip
      intro s
      try simp only [up]
      cases hg : s.gr <;> cases hr : s.rcl <;> grind [isGr, isRet, hasW, ungr, getK]
  case p3a =>
    first
    | exact p3a
    | skip
      intro s j
      by_cases hj : j = k
      · subst hj; (try simp only [up_same]) <;> cases hg : s.gr <;> cases hr : s.rcl <;> grind [isGr, isRet, hasW, ungr, getK]
      · try simp only [up_ne hj]
        first | exact p3a s j | (cases hg : s.gr <;> cases hr : s.rcl <;> grind [isGr, isRet, hasW, ungr, getK])
  case p3b =>
    first
    | exact p3b
    | skip
      intro s j
      by_cases hj : j = k
      · subst hj; (try simp only [up_same]) <;> cases hg : s.gr <;> cases hr : s.rcl <;> grind [isGr, isRet, hasW, ungr, getK]
      · try simp only [up_ne hj]
        first | exact p3b s j | (cases hg : s.gr <;> cases hr : s.rcl <;> grind [isGr, isRet, hasW, ungr, getK])
  case p3c =>
    first
    | exact p3c
    | skip
      intro s j
      by_cases hj : j = k
      · subst hj; (try simp only [up_same]) <;> cases hg : s.gr <;> cases hr : s.rcl <;> grind [isGr, isRet, hasW, ungr, getK]
      · try simp only [up_ne hj]
        first | exact p3c s j | (cases hg : s.gr <;> cases hr : s.rcl <;> grind [isGr, isRet, hasW, ungr, getK])
  case r1 =>
    first
    | exact r1
    | skip
      intro j
      by_cases hj : j = k
      · subst hj; (try simp only [up_same]) <;> grind [isGr, isRet, hasW, ungr, getK]
      · try simp only [up_ne hj]
        first | exact r1 j | (grind [isGr, isRet, hasW, ungr, getK])
  case r2 =>
    first
    | exact r2
    | skip
      intro j
      by_cases hj : j = k
      · subst hj; (try simp only [up_same]) <;> grind [isGr, isRet, hasW, ungr, getK]
      · try simp only [up_ne hj]
        first | exact r2 j | (grind [isGr, isRet, hasW, ungr, getK])
  case r3 =>
    first
    | exact r3
    | skip
      intro s
      try simp only [up]
      cases hg : s.gr <;> cases hr : s.rcl <;> grind [isGr, isRet, hasW, ungr, getK]
  case r4 =>
    first
    | exact r4
    | skip
      intro j
      by_cases hj : j = k
      · subst hj; (try simp only [up_same]) <;> grind [isGr, isRet, hasW, ungr, getK]
      · try simp only [up_ne hj]
        first | exact r4 j | (grind [isGr, isRet, hasW, ungr, getK])
  case r5 =>
    first
    | exact r5
    | skip
      intro j e
      by_cases hj : j = k
      · subst hj; (try simp only [up_same]) <;> grind [isGr, isRet, hasW, ungr, getK]
      · try simp only [up_ne hj]
        first | exact r5 j e | (grind [isGr, isRet, hasW, ungr, getK])
  case r6 =>
    first
    | exact r6
    | skip
      intro j
      by_cases hj : j = k
      · subst hj; (try simp only [up_same]) <;> grind [isGr, isRet, hasW, ungr, getK]
      · try simp only [up_ne hj]
        first | exact r6 j | (grind [isGr, isRet, hasW, ungr, getK])
  case r7 =>
    first
    | exact r7
    | skip
      intro j x y
      by_cases hj : j = k
      · subst hj; (try simp only [up_same]) <;> grind [isGr, isRet, hasW, ungr, getK]
      · try simp only [up_ne hj]
        first | exact r7 j x y | (grind [isGr, isRet, hasW, ungr, getK])
  case rn =>
    first
    | exact rn
    | skip
      intro j
      by_cases hj : j = k
      · subst hj; (try simp only [up_same]) <;> grind [isGr, isRet, hasW, ungr, getK]
      · try simp only [up_ne hj]
        first | exact rn j | (grind [isGr, isRet, hasW, ungr, getK])
  case lv =>
    first
    | exact lv
    | skip
      intro j
      by_cases hj : j = k
      · subst hj; (try simp only [up_same]) <;> grind [isGr, isRet, hasW, ungr, getK]
      · try simp only [up_ne hj]
        first | exact lv j | (grind [isGr, isRet, hasW, ungr, getK])
  case vw =>
    first
    | exact vw
    | skip
      intro j x y
      by_cases hj : j = k
      · subst hj; (try simp only [up_same]) <;> grind [isGr, isRet, hasW, ungr, getK]
      · try simp only [up_ne hj]
        first | exact vw j x y | (grind [isGr, isRet, hasW, ungr, getK])
  case lw =>
    first
    | exact lw
    | skip
      intro j x y
      by_cases hj : j = k
      · subst hj; (try simp only [up_same]) <;> grind [isGr, isRet, hasW, ungr, getK]
      · try simp only [up_ne hj]
        first | exact lw j x y | (grind [isGr, isRet, hasW, ungr, getK])
  case hw =>
    first
    | exact hw
    | skip
      intro j x y
      by_cases hj : j = k
      · subst hj; (try simp only [up_same]) <;> grind [isGr, isRet, hasW, ungr, getK]
      · try simp only [up_ne hj]
        first | exact hw j x y | (grind [isGr, isRet, hasW, ungr, getK])
  case tw =>
    first
    | exact tw
    | skip
      intro j x y
      by_cases hj : j = k
      · subst hj; (try simp only [up_same]) <;> grind [isGr, isRet, hasW, ungr, getK]
      · try simp only [up_ne hj]
        first | exact tw j x y | (grind [isGr, isRet, hasW, ungr, getK])
  case pw =>
    first
    | exact pw
    | skip
      intro j x y
      by_cases hj : j = k
      · subst hj; (try simp only [up_same]) <;> grind [isGr, isRet, hasW, ungr, getK]
      · try simp only [up_ne hj]
        first | exact pw j x y | (grind [isGr, isRet, hasW, ungr, getK])
  case shn =>
    first
    | exact shn
    | skip
      grind [isGr, isRet, hasW, ungr, getK]
  case shl =>
    first
    | exact shl
    | skip
      intro j
      by_cases hj : j = k
      · subst hj; (try simp only [up_same]) <;> grind [isGr, isRet, hasW, ungr, getK]
      · try simp only [up_ne hj]
        first | exact shl j | (grind [isGr, isRet, hasW, ungr, getK])
  case own =>
    first
    | exact own
    | skip
      intro j
      by_cases hj : j = k
      · subst hj; (try simp only [up_same]) <;> grind [isGr, isRet, hasW, ungr, getK]
      · try simp only [up_ne hj]
        first | exact own j | (grind [isGr, isRet, hasW, ungr, getK])
  case pe =>
    first
    | exact pe
    | skip
      intro j x y
      by_cases hj : j = k
      · subst hj; (try simp only [up_same]) <;> grind [isGr, isRet, hasW, ungr, getK]
      · try simp only [up_ne hj]
        first | exact pe j x y | (grind [isGr, isRet, hasW, ungr, getK])
  case ps =>
    first
    | exact ps
    | skip
      intro j x
      by_cases hj : j = k
      · subst hj; (try simp only [up_same]) <;> grind [isGr, isRet, hasW, ungr, getK]
      · try simp only [up_ne hj]
        first | exact ps j x | (grind [isGr, isRet, hasW, ungr, getK])
  case ox =>
    first
    | exact ox
    | skip
      intro j
      by_cases hj : j = k
      · subst hj; (try simp only [up_same]) <;> grind [isGr, isRet, hasW, ungr, getK]
      · try simp only [up_ne hj]
        first | exact ox j | (grind [isGr, isRet, hasW, ungr, getK])
  case pl =>
    first
    | exact pl
    | skip
      intro j
      by_cases hj : j = k
      · subst hj; (try simp only [up_same]) <;> grind [isGr, isRet, hasW, ungr, getK]
      · try simp only [up_ne hj]
        first | exact pl j | (grind [isGr, isRet, hasW, ungr, getK])
  case rp =>
    first
    | exact rp
    | skip
      intro j x y
      by_cases hj : j = k
      · subst hj; (try simp only [up_same]) <;> grind [isGr, isRet, hasW, ungr, getK]
      · try simp only [up_ne hj]
        first | exact rp j x y | (grind [isGr, isRet, hasW, ungr, getK])
  case cf =>
    first
    | exact cf
    | skip
      intro j
      by_cases hj : j = k
      · subst hj; (try simp only [up_same]) <;> grind [isGr, isRet, hasW, ungr, getK]
      · try simp only [up_ne hj]
        first | exact cf j | (grind [isGr, isRet, hasW, ungr, getK])
  case gs =>
    first
    | exact gs
    | skip
      intro j x
      by_cases hj : j = k
      · subst hj; (try simp only [up_same]) <;> grind [isGr, isRet, hasW, ungr, getK]
      · try simp only [up_ne hj]
        first | exact gs j x | (grind [isGr, isRet, hasW, ungr, getK])
  case ge =>
    first
    | exact ge
    | skip
      intro j x y
      by_cases hj : j = k
      · subst hj; (try simp only [up_same]) <;> grind [isGr, isRet, hasW, ungr, getK]
      · try simp only [up_ne hj]
        first | exact ge j x y | (grind [isGr, isRet, hasW, ungr, getK])
  case ia =>
    first
    | exact ia
    | skip
      intro j
      by_cases hj : j = k
      · subst hj; (try simp only [up_same]) <;> grind [isGr, isRet, hasW, ungr, getK]
      · try simp only [up_ne hj]
        first | exact ia j | (grind [isGr, isRet, hasW, ungr, getK])
  case rt =>
    first
    | exact rt
    | skip
      intro j x y
      by_cases hj : j = k
      · subst hj; (try simp only [up_same]) <;> grind [isGr, isRet, hasW, ungr, getK]
      · try simp only [up_ne hj]
        first | exact rt j x y | (grind [isGr, isRet, hasW, ungr, getK])
  case re =>
    first
    | exact re
    | skip
      intro j s
      by_cases hj : j = k
      · subst hj; (try simp only [up_same]) <;> cases hg : s.gr <;> cases hr : s.rcl <;> grind [isGr, isRet, hasW, ungr, getK]
      · try simp only [up_ne hj]
        first | exact re j s | (cases hg : s.gr <;> cases hr : s.rcl <;> grind [isGr, isRet, hasW, ungr, getK])
end
end LK
set_option maxHeartbeats 1000000
namespace LK
section
variable {n wl : Nat} {a : LV}
theorem t_reqOwned {k o : Nat} {e : Bool} (I : LInv n wl a) (hs : a.sv = none) (hq : a.q k = some (getK e)) (ho : a.ow = some o) :
    LInv n wl { a with sv := some ⟨k, e, [], true, none, false⟩, q := up a.q k none, h := up a.h o (some (.recall (!e))) } := by
  have J := I
  have h0 : ∀ j, a.h j = none := fun j => J.p0 j hs
  have hRe : a.R k = some e := by
    cases z : a.R k with
    | none => have := J.r1 k z; rw [hq] at this; cases this
    | some e' => have := J.r5 k e' z; cases e <;> cases e' <;> simp_all [getK]
  have hkn : k < n := J.rn k (by rw [hRe]; simp)
  have hne : o ≠ k := by
    intro z; subst z
    have h1 := J.ox o ho; have h2 := J.pl o; have h3 := J.rp o; have h4 := J.ps o; have h5 := J.own o ho; have h6 := J.p0 o hs
    cases zP : a.P o with
    | none => cases zL : a.L o <;> simp_all [hasW, isRet, isGr]
    | some x => obtain ⟨st, w⟩ := x; cases st <;> simp_all [hasW, isRet, isGr]
  obtain ⟨p0, p1, p1a, p1b, p2, p2a, p2b, p3, p3a, p3b, p3c, r1, r2, r3, r4, r5, r6, r7, rn, lv, vw, lw, hw, tw, pw, shn, shl, own, pe, ps, ox, pl, rp, cf, gs, ge, ia, rt, re⟩ := I
  constructor
  case p0 =>
    first
    | exact p0
    | skip
      intro j
      by_cases h_k : j = k
      · subst h_k; grind [isGr, isRet, hasW, ungr, getK, up]
      · by_cases h_o : j = o
        · subst h_o; grind [isGr, isRet, hasW, ungr, getK, up]
        · try simp only [up_ne h_k, up_ne h_o]
          first | exact p0 j | (grind [isGr, isRet, hasW, ungr, getK, up])
  case p1 =>
    first
    | exact p1
    | skip
      intro s
      intro hsv; cases hsv
      grind [isGr, isRet, hasW, ungr, getK, up]
  case p1a =>
    first
    | exact p1a
    | skip
      intro s j
      intro hsv; cases hsv
      by_cases h_k : j = k
      · subst h_k; grind [isGr, isRet, hasW, ungr, getK, up]
      · by_cases h_o : j = o
        · subst h_o; grind [isGr, isRet, hasW, ungr, getK, up]
        · try simp only [up_ne h_k, up_ne h_o]
          first | exact p1a s j | (grind [isGr, isRet, hasW, ungr, getK, up])
  case p1b =>
    first
    | exact p1b
    | skip
      intro s
      intro hsv; cases hsv
      grind [isGr, isRet, hasW, ungr, getK, up]
  case p2 =>
    first
    | exact p2
    | skip
      intro s
      intro hsv; cases hsv
      grind [isGr, isRet, hasW, ungr, getK, up]
  case p2a =>
    first
    | exact p2a
    | skip
      intro s j
      intro hsv; cases hsv
      by_cases h_k : j = k
      · subst h_k; grind [isGr, isRet, hasW, ungr, getK, up]
      · by_cases h_o : j = o
        · subst h_o; grind [isGr, isRet, hasW, ungr, getK, up]
        · try simp only [up_ne h_k, up_ne h_o]
          first | exact p2a s j | (grind [isGr, isRet, hasW, ungr, getK, up])
  case p2b =>
    first
    | exact p2b
    | skip
      intro s j
      intro hsv; cases hsv
      by_cases h_k : j = k
      · subst h_k; grind [isGr, isRet, hasW, ungr, getK, up]
      · by_cases h_o : j = o
        · subst h_o; grind [isGr, isRet, hasW, ungr, getK, up]
        · try simp only [up_ne h_k, up_ne h_o]
          first | exact p2b s j | (grind [isGr, isRet, hasW, ungr, getK, up])
  case p3 =>
    first
    | exact p3
    | skip
      intro s
      intro hsv; cases hsv
      grind [isGr, isRet, hasW, ungr, getK, up]
  case p3a =>
    first
    | exact p3a
    | skip
      intro s j
      intro hsv; cases hsv
      by_cases h_k : j = k
      · subst h_k; grind [isGr, isRet, hasW, ungr, getK, up]
      · by_cases h_o : j = o
        · subst h_o; grind [isGr, isRet, hasW, ungr, getK, up]
        · try simp only [up_ne h_k, up_ne h_o]
          first | exact p3a s j | (grind [isGr, isRet, hasW, ungr, getK, up])
  case p3b =>
    first
    | exact p3b
    | skip
      intro s j
      intro hsv; cases hsv
      by_cases h_k : j = k
      · subst h_k; grind [isGr, isRet, hasW, ungr, getK, up]
      · by_cases h_o : j = o
        · subst h_o; grind [isGr, isRet, hasW, ungr, getK, up]
        · try simp only [up_ne h_k, up_ne h_o]
          first | exact p3b s j | (grind [isGr, isRet, hasW, ungr, getK, up])
  case p3c =>
    first
    | exact p3c
    | skip
      intro s j
      intro hsv; cases hsv
      by_cases h_k : j = k
      · subst h_k; grind [isGr, isRet, hasW, ungr, getK, up]
      · by_cases h_o : j = o
        · subst h_o; grind [isGr, isRet, hasW, ungr, getK, up]
        · try simp only [up_ne h_k, up_ne h_o]
          first | exact p3c s j | (grind [isGr, isRet, hasW, ungr, getK, up])
  case r1 =>
    first
    | exact r1
    | skip
      intro j
      by_cases h_k : j = k
      · subst h_k; grind [isGr, isRet, hasW, ungr, getK, up]
      · by_cases h_o : j = o
        · subst h_o; grind [isGr, isRet, hasW, ungr, getK, up]
        · try simp only [up_ne h_k, up_ne h_o]
          first | exact r1 j | (grind [isGr, isRet, hasW, ungr, getK, up])
  case r2 =>
    first
    | exact r2
    | skip
      intro j
      by_cases h_k : j = k
      · subst h_k; grind [isGr, isRet, hasW, ungr, getK, up]
      · by_cases h_o : j = o
        · subst h_o; grind [isGr, isRet, hasW, ungr, getK, up]
        · try simp only [up_ne h_k, up_ne h_o]
          first | exact r2 j | (grind [isGr, isRet, hasW, ungr, getK, up])
  case r3 =>
    first
    | exact r3
    | skip
      intro s
      intro hsv; cases hsv
      grind [isGr, isRet, hasW, ungr, getK, up]
  case r4 =>
    first
    | exact r4
    | skip
      intro j
      by_cases h_k : j = k
      · subst h_k; grind [isGr, isRet, hasW, ungr, getK, up]
      · by_cases h_o : j = o
        · subst h_o; grind [isGr, isRet, hasW, ungr, getK, up]
        · try simp only [up_ne h_k, up_ne h_o]
          first | exact r4 j | (grind [isGr, isRet, hasW, ungr, getK, up])
  case r5 =>
    first
    | exact r5
    | skip
      intro j e
      by_cases h_k : j = k
      · subst h_k; grind [isGr, isRet, hasW, ungr, getK, up]
      · by_cases h_o : j = o
        · subst h_o; grind [isGr, isRet, hasW, ungr, getK, up]
        · try simp only [up_ne h_k, up_ne h_o]
          first | exact r5 j e | (grind [isGr, isRet, hasW, ungr, getK, up])
  case r6 =>
    first
    | exact r6
    | skip
      intro j
      by_cases h_k : j = k
      · subst h_k; grind [isGr, isRet, hasW, ungr, getK, up]
      · by_cases h_o : j = o
        · subst h_o; grind [isGr, isRet, hasW, ungr, getK, up]
        · try simp only [up_ne h_k, up_ne h_o]
          first | exact r6 j | (grind [isGr, isRet, hasW, ungr, getK, up])
  case r7 =>
    first
    | exact r7
    | skip
      intro j x y
      by_cases h_k : j = k
      · subst h_k; grind [isGr, isRet, hasW, ungr, getK, up]
      · by_cases h_o : j = o
        · subst h_o; grind [isGr, isRet, hasW, ungr, getK, up]
        · try simp only [up_ne h_k, up_ne h_o]
          first | exact r7 j x y | (grind [isGr, isRet, hasW, ungr, getK, up])
  case rn =>
    first
    | exact rn
    | skip
      intro j
      by_cases h_k : j = k
      · subst h_k; grind [isGr, isRet, hasW, ungr, getK, up]
      · by_cases h_o : j = o
        · subst h_o; grind [isGr, isRet, hasW, ungr, getK, up]
        · try simp only [up_ne h_k, up_ne h_o]
          first | exact rn j | (grind [isGr, isRet, hasW, ungr, getK, up])
  case lv =>
    first
    | exact lv
    | skip
      intro j
      by_cases h_k : j = k
      · subst h_k; grind [isGr, isRet, hasW, ungr, getK, up]
      · by_cases h_o : j = o
        · subst h_o; grind [isGr, isRet, hasW, ungr, getK, up]
        · try simp only [up_ne h_k, up_ne h_o]
          first | exact lv j | (grind [isGr, isRet, hasW, ungr, getK, up])
  case vw =>
    first
    | exact vw
    | skip
      intro j x y
      by_cases h_k : j = k
      · subst h_k; grind [isGr, isRet, hasW, ungr, getK, up]
      · by_cases h_o : j = o
        · subst h_o; grind [isGr, isRet, hasW, ungr, getK, up]
        · try simp only [up_ne h_k, up_ne h_o]
          first | exact vw j x y | (grind [isGr, isRet, hasW, ungr, getK, up])
  case lw =>
    first
    | exact lw
    | skip
      intro j x y
      by_cases h_k : j = k
      · subst h_k; grind [isGr, isRet, hasW, ungr, getK, up]
      · by_cases h_o : j = o
        · subst h_o; grind [isGr, isRet, hasW, ungr, getK, up]
        · try simp only [up_ne h_k, up_ne h_o]
          first | exact lw j x y | (grind [isGr, isRet, hasW, ungr, getK, up])
  case hw =>
    first
    | exact hw
    | skip
      intro j x y
      by_cases h_k : j = k
      · subst h_k; grind [isGr, isRet, hasW, ungr, getK, up]
      · by_cases h_o : j = o
        · subst h_o; grind [isGr, isRet, hasW, ungr, getK, up]
        · try simp only [up_ne h_k, up_ne h_o]
          first | exact hw j x y | (grind [isGr, isRet, hasW, ungr, getK, up])
  case tw =>
    first
    | exact tw
    | skip
      intro j x y
      by_cases h_k : j = k
      · subst h_k; grind [isGr, isRet, hasW, ungr, getK, up]
      · by_cases h_o : j = o
        · subst h_o; grind [isGr, isRet, hasW, ungr, getK, up]
        · try simp only [up_ne h_k, up_ne h_o]
          first | exact tw j x y | (grind [isGr, isRet, hasW, ungr, getK, up])
  case pw =>
    first
    | exact pw
    | skip
      intro j x y
      by_cases h_k : j = k
      · subst h_k; grind [isGr, isRet, hasW, ungr, getK, up]
      · by_cases h_o : j = o
        · subst h_o; grind [isGr, isRet, hasW, ungr, getK, up]
        · try simp only [up_ne h_k, up_ne h_o]
          first | exact pw j x y | (grind [isGr, isRet, hasW, ungr, getK, up])
  case shn =>
    first
    | exact shn
    | skip
      grind [isGr, isRet, hasW, ungr, getK, up]
  case shl =>
    first
    | exact shl
    | skip
      intro j
      by_cases h_k : j = k
      · subst h_k; grind [isGr, isRet, hasW, ungr, getK, up]
      · by_cases h_o : j = o
        · subst h_o; grind [isGr, isRet, hasW, ungr, getK, up]
        · try simp only [up_ne h_k, up_ne h_o]
          first | exact shl j | (grind [isGr, isRet, hasW, ungr, getK, up])
  case own =>
    first
    | exact own
    | skip
      intro j
      by_cases h_k : j = k
      · subst h_k; grind [isGr, isRet, hasW, ungr, getK, up]
      · by_cases h_o : j = o
        · subst h_o; grind [isGr, isRet, hasW, ungr, getK, up]
        · try simp only [up_ne h_k, up_ne h_o]
          first | exact own j | (grind [isGr, isRet, hasW, ungr, getK, up])
  case pe =>
    first
    | exact pe
    | skip
      intro j x y
      by_cases h_k : j = k
      · subst h_k; grind [isGr, isRet, hasW, ungr, getK, up]
      · by_cases h_o : j = o
        · subst h_o; grind [isGr, isRet, hasW, ungr, getK, up]
        · try simp only [up_ne h_k, up_ne h_o]
          first | exact pe j x y | (grind [isGr, isRet, hasW, ungr, getK, up])
  case ps =>
    first
    | exact ps
    | skip
      intro j x
      by_cases h_k : j = k
      · subst h_k; grind [isGr, isRet, hasW, ungr, getK, up]
      · by_cases h_o : j = o
        · subst h_o; grind [isGr, isRet, hasW, ungr, getK, up]
        · try simp only [up_ne h_k, up_ne h_o]
          first | exact ps j x | (grind [isGr, isRet, hasW, ungr, getK, up])
  case ox =>
    first
    | exact ox
    | skip
      intro j
      by_cases h_k : j = k
      · subst h_k; grind [isGr, isRet, hasW, ungr, getK, up]
      · by_cases h_o : j = o
        · subst h_o; grind [isGr, isRet, hasW, ungr, getK, up]
        · try simp only [up_ne h_k, up_ne h_o]
          first | exact ox j | (grind [isGr, isRet, hasW, ungr, getK, up])
  case pl =>
    first
    | exact pl
    | skip
      intro j
      by_cases h_k : j = k
      · subst h_k; grind [isGr, isRet, hasW, ungr, getK, up]
      · by_cases h_o : j = o
        · subst h_o; grind [isGr, isRet, hasW, ungr, getK, up]
        · try simp only [up_ne h_k, up_ne h_o]
          first | exact pl j | (grind [isGr, isRet, hasW, ungr, getK, up])
  case rp =>
    first
    | exact rp
    | skip
      intro j x y
      by_cases h_k : j = k
      · subst h_k; grind [isGr, isRet, hasW, ungr, getK, up]
      · by_cases h_o : j = o
        · subst h_o; grind [isGr, isRet, hasW, ungr, getK, up]
        · try simp only [up_ne h_k, up_ne h_o]
          first | exact rp j x y | (grind [isGr, isRet, hasW, ungr, getK, up])
  case cf =>
    first
    | exact cf
    | skip
      intro j
      by_cases h_k : j = k
      · subst h_k; grind [isGr, isRet, hasW, ungr, getK, up]
      · by_cases h_o : j = o
        · subst h_o; grind [isGr, isRet, hasW, ungr, getK, up]
        · try simp only [up_ne h_k, up_ne h_o]
          first | exact cf j | (grind [isGr, isRet, hasW, ungr, getK, up])
  case gs =>
    first
    | exact gs
    | skip
      intro j x
      by_cases h_k : j = k
      · subst h_k; grind [isGr, isRet, hasW, ungr, getK, up]
      · by_cases h_o : j = o
        · subst h_o; grind [isGr, isRet, hasW, ungr, getK, up]
        · try simp only [up_ne h_k, up_ne h_o]
          first | exact gs j x | (grind [isGr, isRet, hasW, ungr, getK, up])
  case ge =>
    first
    | exact ge
    | skip
      intro j x y
      by_cases h_k : j = k
      · subst h_k; grind [isGr, isRet, hasW, ungr, getK, up]
      · by_cases h_o : j = o
        · subst h_o; grind [isGr, isRet, hasW, ungr, getK, up]
        · try simp only [up_ne h_k, up_ne h_o]
          first | exact ge j x y | (grind [isGr, isRet, hasW, ungr, getK, up])
  case ia =>
    first
    | exact ia
    | skip
      intro j
      by_cases h_k : j = k
      · subst h_k; grind [isGr, isRet, hasW, ungr, getK, up]
      · by_cases h_o : j = o
        · subst h_o; grind [isGr, isRet, hasW, ungr, getK, up]
        · try simp only [up_ne h_k, up_ne h_o]
          first | exact ia j | (grind [isGr, isRet, hasW, ungr, getK, up])
  case rt =>
    first
    | exact rt
    | skip
      intro j x y
      by_cases h_k : j = k
      · subst h_k; grind [isGr, isRet, hasW, ungr, getK, up]
      · by_cases h_o : j = o
        · subst h_o; grind [isGr, isRet, hasW, ungr, getK, up]
        · try simp only [up_ne h_k, up_ne h_o]
          first | exact rt j x y | (grind [isGr, isRet, hasW, ungr, getK, up])
  case re =>
    first
    | exact re
    | skip
      intro j s
      intro hret hsv; cases hsv
      by_cases h_k : j = k
      · subst h_k; grind [isGr, isRet, hasW, ungr, getK, up]
      · by_cases h_o : j = o
        · subst h_o; grind [isGr, isRet, hasW, ungr, getK, up]
        · try simp only [up_ne h_k, up_ne h_o]
          first | exact re j s | (grind [isGr, isRet, hasW, ungr, getK, up])
theorem t_reqM {k : Nat} {e : Bool} {w0 : Option Nat} (I : LInv n wl a) (hs : a.sv = none) (hq : a.q k = some (getK e)) (he : e = true) (ho : a.ow = none) (hsh : ∀ j, j ∈ a.sh → j = k) :
    LInv n wl { a with ow := some k, sh := [], sv := some ⟨k, true, [], false, w0, true⟩, q := up a.q k none, h := up a.h k (some (.grant .M wl)) } := by
  have J := I
  have h0 : ∀ j, a.h j = none := fun j => J.p0 j hs
  have hRe : a.R k = some e := by
    cases z : a.R k with
    | none => have := J.r1 k z; rw [hq] at this; cases this
    | some e' => have := J.r5 k e' z; cases e <;> cases e' <;> simp_all [getK]
  have hkn : k < n := J.rn k (by rw [hRe]; simp)
  obtain ⟨p0, p1, p1a, p1b, p2, p2a, p2b, p3, p3a, p3b, p3c, r1, r2, r3, r4, r5, r6, r7, rn, lv, vw, lw, hw, tw, pw, shn, shl, own, pe, ps, ox, pl, rp, cf, gs, ge, ia, rt, re⟩ := I
  constructor
  case p0 =>
    first
    | exact p0
    | skip
      intro j
      by_cases h_k : j = k
      · subst h_k; grind [isGr, isRet, hasW, ungr, getK, up]
      · try simp only [up_ne h_k]
        first | exact p0 j | (grind [isGr, isRet, hasW, ungr, getK, up])
  case p1 =>
    first
    | exact p1
    | skip
      intro s
      intro hsv; cases hsv
      grind [isGr, isRet, hasW, ungr, getK, up]
  case p1a =>
    first
    | exact p1a
    | skip
      intro s j
      intro hsv; cases hsv
      by_cases h_k : j = k
      · subst h_k; grind [isGr, isRet, hasW, ungr, getK, up]
      · try simp only [up_ne h_k]
        first | exact p1a s j | (grind [isGr, isRet, hasW, ungr, getK, up])
  case p1b =>
    first
    | exact p1b
    | skip
      intro s
      intro hsv; cases hsv
      grind [isGr, isRet, hasW, ungr, getK, up]
  case p2 =>
    first
    | exact p2
    | skip
      intro s
      intro hsv; cases hsv
      grind [isGr, isRet, hasW, ungr, getK, up]
  case p2a =>
    first
    | exact p2a
    | skip
      intro s j
      intro hsv; cases hsv
      by_cases h_k : j = k
      · subst h_k; grind [isGr, isRet, hasW, ungr, getK, up]
      · try simp only [up_ne h_k]
        first | exact p2a s j | (grind [isGr, isRet, hasW, ungr, getK, up])
  case p2b =>
    first
    | exact p2b
    | skip
      intro s j
      intro hsv; cases hsv
      by_cases h_k : j = k
      · subst h_k; grind [isGr, isRet, hasW, ungr, getK, up]
      · try simp only [up_ne h_k]
        first | exact p2b s j | (grind [isGr, isRet, hasW, ungr, getK, up])
  case p3 =>
    first
    | exact p3
    | skip
      intro s
      intro hsv; cases hsv
      grind [isGr, isRet, hasW, ungr, getK, up]
  case p3a =>
    first
    | exact p3a
    | skip
      intro s j
      intro hsv; cases hsv
      by_cases h_k : j = k
      · subst h_k; grind [isGr, isRet, hasW, ungr, getK, up]
      · try simp only [up_ne h_k]
        first | exact p3a s j | (grind [isGr, isRet, hasW, ungr, getK, up])
  case p3b =>
    first
    | exact p3b
    | skip
      intro s j
      intro hsv; cases hsv
      by_cases h_k : j = k
      · subst h_k; grind [isGr, isRet, hasW, ungr, getK, up]
      · try simp only [up_ne h_k]
        first | exact p3b s j | (grind [isGr, isRet, hasW, ungr, getK, up])
  case p3c =>
    first
    | exact p3c
    | skip
      intro s j
      intro hsv; cases hsv
      by_cases h_k : j = k
      · subst h_k; grind [isGr, isRet, hasW, ungr, getK, up]
      · try simp only [up_ne h_k]
        first | exact p3c s j | (grind [isGr, isRet, hasW, ungr, getK, up])
  case r1 =>
    first
    | exact r1
    | skip
      intro j
      by_cases h_k : j = k
      · subst h_k; grind [isGr, isRet, hasW, ungr, getK, up]
      · try simp only [up_ne h_k]
        first | exact r1 j | (grind [isGr, isRet, hasW, ungr, getK, up])
  case r2 =>
    first
    | exact r2
    | skip
      intro j
      by_cases h_k : j = k
      · subst h_k; grind [isGr, isRet, hasW, ungr, getK, up]
      · try simp only [up_ne h_k]
        first | exact r2 j | (grind [isGr, isRet, hasW, ungr, getK, up])
  case r3 =>
    first
    | exact r3
    | skip
      intro s
      intro hsv; cases hsv
      grind [isGr, isRet, hasW, ungr, getK, up]
  case r4 =>
    first
    | exact r4
    | skip
      intro j
      by_cases h_k : j = k
      · subst h_k; grind [isGr, isRet, hasW, ungr, getK, up]
      · try simp only [up_ne h_k]
        first | exact r4 j | (grind [isGr, isRet, hasW, ungr, getK, up])
  case r5 =>
    first
    | exact r5
    | skip
      intro j e
      by_cases h_k : j = k
      · subst h_k; grind [isGr, isRet, hasW, ungr, getK, up]
      · try simp only [up_ne h_k]
        first | exact r5 j e | (grind [isGr, isRet, hasW, ungr, getK, up])
  case r6 =>
    first
    | exact r6
    | skip
      intro j
      by_cases h_k : j = k
      · subst h_k; grind [isGr, isRet, hasW, ungr, getK, up]
      · try simp only [up_ne h_k]
        first | exact r6 j | (grind [isGr, isRet, hasW, ungr, getK, up])
  case r7 =>
    first
    | exact r7
    | skip
      intro j x y
      by_cases h_k : j = k
      · subst h_k; grind [isGr, isRet, hasW, ungr, getK, up]
      · try simp only [up_ne h_k]
        first | exact r7 j x y | (grind [isGr, isRet, hasW, ungr, getK, up])
  case rn =>
    first
    | exact rn
    | skip
      intro j
      by_cases h_k : j = k
      · subst h_k; grind [isGr, isRet, hasW, ungr, getK, up]
      · try simp only [up_ne h_k]
        first | exact rn j | (grind [isGr, isRet, hasW, ungr, getK, up])
  case lv =>
    first
    | exact lv
    | skip
      intro j
      by_cases h_k : j = k
      · subst h_k; grind [isGr, isRet, hasW, ungr, getK, up]
      · try simp only [up_ne h_k]
        first | exact lv j | (grind [isGr, isRet, hasW, ungr, getK, up])
  case vw =>
    first
    | exact vw
    | skip
      intro j x y
      by_cases h_k : j = k
      · subst h_k; grind [isGr, isRet, hasW, ungr, getK, up]
      · try simp only [up_ne h_k]
        first | exact vw j x y | (grind [isGr, isRet, hasW, ungr, getK, up])
  case lw =>
    first
    | exact lw
    | skip
      intro j x y
      by_cases h_k : j = k
      · subst h_k; grind [isGr, isRet, hasW, ungr, getK, up]
      · try simp only [up_ne h_k]
        first | exact lw j x y | (grind [isGr, isRet, hasW, ungr, getK, up])
  case hw =>
    first
    | exact hw
    | skip
      intro j x y
      by_cases h_k : j = k
      · subst h_k; grind [isGr, isRet, hasW, ungr, getK, up]
      · try simp only [up_ne h_k]
        first | exact hw j x y | (grind [isGr, isRet, hasW, ungr, getK, up])
  case tw =>
    first
    | exact tw
    | skip
      intro j x y
      by_cases h_k : j = k
      · subst h_k; grind [isGr, isRet, hasW, ungr, getK, up]
      · try simp only [up_ne h_k]
        first | exact tw j x y | (grind [isGr, isRet, hasW, ungr, getK, up])
  case pw =>
    first
    | exact pw
    | skip
      intro j x y
      by_cases h_k : j = k
      · subst h_k; grind [isGr, isRet, hasW, ungr, getK, up]
      · try simp only [up_ne h_k]
        first | exact pw j x y | (grind [isGr, isRet, hasW, ungr, getK, up])
  case shn =>
    first
    | exact shn
    | skip
      grind [isGr, isRet, hasW, ungr, getK, up]
  case shl =>
    first
    | exact shl
    | skip
      intro j
      by_cases h_k : j = k
      · subst h_k; grind [isGr, isRet, hasW, ungr, getK, up]
      · try simp only [up_ne h_k]
        first | exact shl j | (grind [isGr, isRet, hasW, ungr, getK, up])
  case own =>
    first
    | exact own
    | skip
      intro j
      by_cases h_k : j = k
      · subst h_k; grind [isGr, isRet, hasW, ungr, getK, up]
      · try simp only [up_ne h_k]
        first | exact own j | (grind [isGr, isRet, hasW, ungr, getK, up])
  case pe =>
    first
    | exact pe
    | skip
      intro j x y
      by_cases h_k : j = k
      · subst h_k; grind [isGr, isRet, hasW, ungr, getK, up]
      · try simp only [up_ne h_k]
        first | exact pe j x y | (grind [isGr, isRet, hasW, ungr, getK, up])
  case ps =>
    first
    | exact ps
    | skip
      intro j x
      by_cases h_k : j = k
      · subst h_k; grind [isGr, isRet, hasW, ungr, getK, up]
      · try simp only [up_ne h_k]
        first | exact ps j x | (grind [isGr, isRet, hasW, ungr, getK, up])
  case ox =>
    first
    | exact ox
    | skip
      intro j
      by_cases h_k : j = k
      · subst h_k; grind [isGr, isRet, hasW, ungr, getK, up]
      · try simp only [up_ne h_k]
        first | exact ox j | (grind [isGr, isRet, hasW, ungr, getK, up])
  case pl =>
    first
    | exact pl
    | skip
      intro j
      by_cases h_k : j = k
      · subst h_k; grind [isGr, isRet, hasW, ungr, getK, up]
      · try simp only [up_ne h_k]
        first | exact pl j | (grind [isGr, isRet, hasW, ungr, getK, up])
  case rp =>
    first
    | exact rp
    | skip
      intro j x y
      by_cases h_k : j = k
      · subst h_k; grind [isGr, isRet, hasW, ungr, getK, up]
      · try simp only [up_ne h_k]
        first | exact rp j x y | (grind [isGr, isRet, hasW, ungr, getK, up])
  case cf =>
    first
    | exact cf
    | skip
      intro j
      by_cases h_k : j = k
      · subst h_k; grind [isGr, isRet, hasW, ungr, getK, up]
      · try simp only [up_ne h_k]
        first | exact cf j | (grind [isGr, isRet, hasW, ungr, getK, up])
  case gs =>
    first
    | exact gs
    | skip
      intro j x
      by_cases h_k : j = k
      · subst h_k; grind [isGr, isRet, hasW, ungr, getK, up]
      · try simp only [up_ne h_k]
        first | exact gs j x | (grind [isGr, isRet, hasW, ungr, getK, up])
  case ge =>
    first
    | exact ge
    | skip
      intro j x y
      by_cases h_k : j = k
      · subst h_k; grind [isGr, isRet, hasW, ungr, getK, up]
      · try simp only [up_ne h_k]
        first | exact ge j x y | (grind [isGr, isRet, hasW, ungr, getK, up])
  case ia =>
    first
    | exact ia
    | skip
      intro j
      by_cases h_k : j = k
      · subst h_k; grind [isGr, isRet, hasW, ungr, getK, up]
      · try simp only [up_ne h_k]
        first | exact ia j | (grind [isGr, isRet, hasW, ungr, getK, up])
  case rt =>
    first
    | exact rt
    | skip
      intro j x y
      by_cases h_k : j = k
      · subst h_k; grind [isGr, isRet, hasW, ungr, getK, up]
      · try simp only [up_ne h_k]
        first | exact rt j x y | (grind [isGr, isRet, hasW, ungr, getK, up])
  case re =>
    first
    | exact re
    | skip
      intro j s
      intro hret hsv; cases hsv
      by_cases h_k : j = k
      · subst h_k; grind [isGr, isRet, hasW, ungr, getK, up]
      · try simp only [up_ne h_k]
        first | exact re j s | (grind [isGr, isRet, hasW, ungr, getK, up])
theorem t_reqE {k : Nat} {e : Bool} {w0 : Option Nat} (I : LInv n wl a) (hs : a.sv = none) (hq : a.q k = some (getK e)) (he : e = false) (ho : a.ow = none) (hsh : a.sh = []) :
    LInv n wl { a with ow := some k, sv := some ⟨k, false, [], false, w0, true⟩, q := up a.q k none, h := up a.h k (some (.grant .E wl)) } := by
  have J := I
  have h0 : ∀ j, a.h j = none := fun j => J.p0 j hs
  have hRe : a.R k = some e := by
    cases z : a.R k with
    | none => have := J.r1 k z; rw [hq] at this; cases this
    | some e' => have := J.r5 k e' z; cases e <;> cases e' <;> simp_all [getK]
  have hkn : k < n := J.rn k (by rw [hRe]; simp)
  obtain ⟨p0, p1, p1a, p1b, p2, p2a, p2b, p3, p3a, p3b, p3c, r1, r2, r3, r4, r5, r6, r7, rn, lv, vw, lw, hw, tw, pw, shn, shl, own, pe, ps, ox, pl, rp, cf, gs, ge, ia, rt, re⟩ := I
  constructor
  case p0 =>
    first
    | exact p0
    | skip
      intro j
      by_cases h_k : j = k
      · subst h_k; grind [isGr, isRet, hasW, ungr, getK, up]
      · try simp only [up_ne h_k]
        first | exact p0 j | (grind [isGr, isRet, hasW, ungr, getK, up])
  case p1 =>
    first
    | exact p1
    | skip
      intro s
      intro hsv; cases hsv
      grind [isGr, isRet, hasW, ungr, getK, up]
  case p1a =>
    first
    | exact p1a
    | skip
      intro s j
      intro hsv; cases hsv
      by_cases h_k : j = k
      · subst h_k; grind [isGr, isRet, hasW, ungr, getK, up]
      · try simp only [up_ne h_k]
        first | exact p1a s j | (grind [isGr, isRet, hasW, ungr, getK, up])
  case p1b =>
    first
    | exact p1b
    | skip
      intro s
      intro hsv; cases hsv
      grind [isGr, isRet, hasW, ungr, getK, up]
  case p2 =>
    first
    | exact p2
    | skip
      intro s
      intro hsv; cases hsv
      grind [isGr, isRet, hasW, ungr, getK, up]
  case p2a =>
    first
    | exact p2a
    | skip
      intro s j
      intro hsv; cases hsv
      by_cases h_k : j = k
      · subst h_k; grind [isGr, isRet, hasW, ungr, getK, up]
      · try simp only [up_ne h_k]
        first | exact p2a s j | (grind [isGr, isRet, hasW, ungr, getK, up])
  case p2b =>
    first
    | exact p2b
    | skip
      intro s j
      intro hsv; cases hsv
      by_cases h_k : j = k
      · subst h_k; grind [isGr, isRet, hasW, ungr, getK, up]
      · try simp only [up_ne h_k]
        first | exact p2b s j | (grind [isGr, isRet, hasW, ungr, getK, up])
  case p3 =>
    first
    | exact p3
    | skip
      intro s
      intro hsv; cases hsv
      grind [isGr, isRet, hasW, ungr, getK, up]
  case p3a =>
    first
    | exact p3a
    | skip
      intro s j
      intro hsv; cases hsv
      by_cases h_k : j = k
      · subst h_k; grind [isGr, isRet, hasW, ungr, getK, up]
      · try simp only [up_ne h_k]
        first | exact p3a s j | (grind [isGr, isRet, hasW, ungr, getK, up])
  case p3b =>
    first
    | exact p3b
    | skip
      intro s j
      intro hsv; cases hsv
      by_cases h_k : j = k
      · subst h_k; grind [isGr, isRet, hasW, ungr, getK, up]
      · try simp only [up_ne h_k]
        first | exact p3b s j | (grind [isGr, isRet, hasW, ungr, getK, up])
  case p3c =>
    first
    | exact p3c
    | skip
      intro s j
      intro hsv; cases hsv
      by_cases h_k : j = k
      · subst h_k; grind [isGr, isRet, hasW, ungr, getK, up]
      · try simp only [up_ne h_k]
        first | exact p3c s j | (grind [isGr, isRet, hasW, ungr, getK, up])
  case r1 =>
    first
    | exact r1
    | skip
      intro j
      by_cases h_k : j = k
      · subst h_k; grind [isGr, isRet, hasW, ungr, getK, up]
      · try simp only [up_ne h_k]
        first | exact r1 j | (grind [isGr, isRet, hasW, ungr, getK, up])
  case r2 =>
    first
    | exact r2
    | skip
      intro j
      by_cases h_k : j = k
      · subst h_k; grind [isGr, isRet, hasW, ungr, getK, up]
      · try simp only [up_ne h_k]
        first | exact r2 j | (grind [isGr, isRet, hasW, ungr, getK, up])
  case r3 =>
    first
    | exact r3
    | skip
      intro s
      intro hsv; cases hsv
      grind [isGr, isRet, hasW, ungr, getK, up]
  case r4 =>
    first
    | exact r4
    | skip
      intro j
      by_cases h_k : j = k
      · subst h_k; grind [isGr, isRet, hasW, ungr, getK, up]
      · try simp only [up_ne h_k]
        first | exact r4 j | (grind [isGr, isRet, hasW, ungr, getK, up])
  case r5 =>
    first
    | exact r5
    | skip
      intro j e
      by_cases h_k : j = k
      · subst h_k; grind [isGr, isRet, hasW, ungr, getK, up]
      · try simp only [up_ne h_k]
        first | exact r5 j e | (grind [isGr, isRet, hasW, ungr, getK, up])
  case r6 =>
    first
    | exact r6
    | skip
      intro j
      by_cases h_k : j = k
      · subst h_k; grind [isGr, isRet, hasW, ungr, getK, up]
      · try simp only [up_ne h_k]
        first | exact r6 j | (grind [isGr, isRet, hasW, ungr, getK, up])
  case r7 =>
    first
    | exact r7
    | skip
      intro j x y
      by_cases h_k : j = k
      · subst h_k; grind [isGr, isRet, hasW, ungr, getK, up]
      · try simp only [up_ne h_k]
        first | exact r7 j x y | (grind [isGr, isRet, hasW, ungr, getK, up])
  case rn =>
    first
    | exact rn
    | skip
      intro j
      by_cases h_k : j = k
      · subst h_k; grind [isGr, isRet, hasW, ungr, getK, up]
      · try simp only [up_ne h_k]
        first | exact rn j | (grind [isGr, isRet, hasW, ungr, getK, up])
  case lv =>
    first
    | exact lv
    | skip
      intro j
      by_cases h_k : j = k
      · subst h_k; grind [isGr, isRet, hasW, ungr, getK, up]
      · try simp only [up_ne h_k]
        first | exact lv j | (grind [isGr, isRet, hasW, ungr, getK, up])
  case vw =>
    first
    | exact vw
    | skip
      intro j x y
      by_cases h_k : j = k
      · subst h_k; grind [isGr, isRet, hasW, ungr, getK, up]
      · try simp only [up_ne h_k]
        first | exact vw j x y | (grind [isGr, isRet, hasW, ungr, getK, up])
  case lw =>
    first
    | exact lw
    | skip
      intro j x y
      by_cases h_k : j = k
      · subst h_k; grind [isGr, isRet, hasW, ungr, getK, up]
      · try simp only [up_ne h_k]
        first | exact lw j x y | (grind [isGr, isRet, hasW, ungr, getK, up])
  case hw =>
    first
    | exact hw
    | skip
      intro j x y
      by_cases h_k : j = k
      · subst h_k; grind [isGr, isRet, hasW, ungr, getK, up]
      · try simp only [up_ne h_k]
        first | exact hw j x y | (grind [isGr, isRet, hasW, ungr, getK, up])
  case tw =>
    first
    | exact tw
    | skip
      intro j x y
      by_cases h_k : j = k
      · subst h_k; grind [isGr, isRet, hasW, ungr, getK, up]
      · try simp only [up_ne h_k]
        first | exact tw j x y | (grind [isGr, isRet, hasW, ungr, getK, up])
  case pw =>
    first
    | exact pw
    | skip
      intro j x y
      by_cases h_k : j = k
      · subst h_k; grind [isGr, isRet, hasW, ungr, getK, up]
      · try simp only [up_ne h_k]
        first | exact pw j x y | (grind [isGr, isRet, hasW, ungr, getK, up])
  case shn =>
    first
    | exact shn
    | skip
      grind [isGr, isRet, hasW, ungr, getK, up]
  case shl =>
    first
    | exact shl
    | skip
      intro j
      by_cases h_k : j = k
      · subst h_k; grind [isGr, isRet, hasW, ungr, getK, up]
      · try simp only [up_ne h_k]
        first | exact shl j | (grind [isGr, isRet, hasW, ungr, getK, up])
  case own =>
    first
    | exact own
    | skip
      intro j
      by_cases h_k : j = k
      · subst h_k; grind [isGr, isRet, hasW, ungr, getK, up]
      · try simp only [up_ne h_k]
        first | exact own j | (grind [isGr, isRet, hasW, ungr, getK, up])
  case pe =>
    first
    | exact pe
    | skip
      intro j x y
      by_cases h_k : j = k
      · subst h_k; grind [isGr, isRet, hasW, ungr, getK, up]
      · try simp only [up_ne h_k]
        first | exact pe j x y | (grind [isGr, isRet, hasW, ungr, getK, up])
  case ps =>
    first
    | exact ps
    | skip
      intro j x
      by_cases h_k : j = k
      · subst h_k; grind [isGr, isRet, hasW, ungr, getK, up]
      · try simp only [up_ne h_k]
        first | exact ps j x | (grind [isGr, isRet, hasW, ungr, getK, up])
  case ox =>
    first
    | exact ox
    | skip
      intro j
      by_cases h_k : j = k
      · subst h_k; grind [isGr, isRet, hasW, ungr, getK, up]
      · try simp only [up_ne h_k]
        first | exact ox j | (grind [isGr, isRet, hasW, ungr, getK, up])
  case pl =>
    first
    | exact pl
    | skip
      intro j
      by_cases h_k : j = k
      · subst h_k; grind [isGr, isRet, hasW, ungr, getK, up]
      · try simp only [up_ne h_k]
        first | exact pl j | (grind [isGr, isRet, hasW, ungr, getK, up])
  case rp =>
    first
    | exact rp
    | skip
      intro j x y
      by_cases h_k : j = k
      · subst h_k; grind [isGr, isRet, hasW, ungr, getK, up]
      · try simp only [up_ne h_k]
        first | exact rp j x y | (grind [isGr, isRet, hasW, ungr, getK, up])
  case cf =>
    first
    | exact cf
    | skip
      intro j
      by_cases h_k : j = k
      · subst h_k; grind [isGr, isRet, hasW, ungr, getK, up]
      · try simp only [up_ne h_k]
        first | exact cf j | (grind [isGr, isRet, hasW, ungr, getK, up])
  case gs =>
    first
    | exact gs
    | skip
      intro j x
      by_cases h_k : j = k
      · subst h_k; grind [isGr, isRet, hasW, ungr, getK, up]
      · try simp only [up_ne h_k]
        first | exact gs j x | (grind [isGr, isRet, hasW, ungr, getK, up])
  case ge =>
    first
    | exact ge
    | skip
      intro j x y
      by_cases h_k : j = k
      · subst h_k; grind [isGr, isRet, hasW, ungr, getK, up]
      · try simp only [up_ne h_k]
        first | exact ge j x y | (grind [isGr, isRet, hasW, ungr, getK, up])
  case ia =>
    first
    | exact ia
    | skip
      intro j
      by_cases h_k : j = k
      · subst h_k; grind [isGr, isRet, hasW, ungr, getK, up]
      · try simp only [up_ne h_k]
        first | exact ia j | (grind [isGr, isRet, hasW, ungr, getK, up])
  case rt =>
    first
    | exact rt
    | skip
      intro j x y
      by_cases h_k : j = k
      · subst h_k; grind [isGr, isRet, hasW, ungr, getK, up]
      · try simp only [up_ne h_k]
        first | exact rt j x y | (grind [isGr, isRet, hasW, ungr, getK, up])
  case re =>
    first
    | exact re
    | skip
      intro j s
      intro hret hsv; cases hsv
      by_cases h_k : j = k
      · subst h_k; grind [isGr, isRet, hasW, ungr, getK, up]
      · try simp only [up_ne h_k]
        first | exact re j s | (grind [isGr, isRet, hasW, ungr, getK, up])
theorem t_reqS {k : Nat} {e : Bool} {sh : List Nat} {w0 : Option Nat} (I : LInv n wl a) (hs : a.sv = none) (hq : a.q k = some (getK e)) (he : e = false) (ho : a.ow = none) (hn : sh.Nodup) (hsub : ∀ j, j ∈ sh ↔ (j ∈ a.sh ∨ j = k)) :
    LInv n wl { a with sh := sh, sv := some ⟨k, false, [], false, w0, true⟩, q := up a.q k none, h := up a.h k (some (.grant .S wl)) } := by
  have J := I
  have h0 : ∀ j, a.h j = none := fun j => J.p0 j hs
  have hRe : a.R k = some e := by
    cases z : a.R k with
    | none => have := J.r1 k z; rw [hq] at this; cases this
    | some e' => have := J.r5 k e' z; cases e <;> cases e' <;> simp_all [getK]
  have hkn : k < n := J.rn k (by rw [hRe]; simp)
  obtain ⟨p0, p1, p1a, p1b, p2, p2a, p2b, p3, p3a, p3b, p3c, r1, r2, r3, r4, r5, r6, r7, rn, lv, vw, lw, hw, tw, pw, shn, shl, own, pe, ps, ox, pl, rp, cf, gs, ge, ia, rt, re⟩ := I
  constructor
  case p0 =>
    first
    | exact p0
    | skip
      intro j
      by_cases h_k : j = k
      · subst h_k; grind [isGr, isRet, hasW, ungr, getK, up]
      · try simp only [up_ne h_k]
        first | exact p0 j | (grind [isGr, isRet, hasW, ungr, getK, up])
  case p1 =>
    first
    | exact p1
    | skip
      intro s
      intro hsv; cases hsv
      grind [isGr, isRet, hasW, ungr, getK, up]
  case p1a =>
    first
    | exact p1a
    | skip
      intro s j
      intro hsv; cases hsv
      by_cases h_k : j = k
      · subst h_k; grind [isGr, isRet, hasW, ungr, getK, up]
      · try simp only [up_ne h_k]
        first | exact p1a s j | (grind [isGr, isRet, hasW, ungr, getK, up])
  case p1b =>
    first
    | exact p1b
    | skip
      intro s
      intro hsv; cases hsv
      grind [isGr, isRet, hasW, ungr, getK, up]
  case p2 =>
    first
    | exact p2
    | skip
      intro s
      intro hsv; cases hsv
      grind [isGr, isRet, hasW, ungr, getK, up]
  case p2a =>
    first
    | exact p2a
    | skip
      intro s j
      intro hsv; cases hsv
      by_cases h_k : j = k
      · subst h_k; grind [isGr, isRet, hasW, ungr, getK, up]
      · try simp only [up_ne h_k]
        first | exact p2a s j | (grind [isGr, isRet, hasW, ungr, getK, up])
  case p2b =>
    first
    | exact p2b
    | skip
      intro s j
      intro hsv; cases hsv
      by_cases h_k : j = k
      · subst h_k; grind [isGr, isRet, hasW, ungr, getK, up]
      · try simp only [up_ne h_k]
        first | exact p2b s j | (grind [isGr, isRet, hasW, ungr, getK, up])
  case p3 =>
    first
    | exact p3
    | skip
      intro s
      intro hsv; cases hsv
      grind [isGr, isRet, hasW, ungr, getK, up]
  case p3a =>
    first
    | exact p3a
    | skip
      intro s j
      intro hsv; cases hsv
      by_cases h_k : j = k
      · subst h_k; grind [isGr, isRet, hasW, ungr, getK, up]
      · try simp only [up_ne h_k]
        first | exact p3a s j | (grind [isGr, isRet, hasW, ungr, getK, up])
  case p3b =>
    first
    | exact p3b
    | skip
      intro s j
      intro hsv; cases hsv
      by_cases h_k : j = k
      · subst h_k; grind [isGr, isRet, hasW, ungr, getK, up]
      · try simp only [up_ne h_k]
        first | exact p3b s j | (grind [isGr, isRet, hasW, ungr, getK, up])
  case p3c =>
    first
    | exact p3c
    | skip
      intro s j
      intro hsv; cases hsv
      by_cases h_k : j = k
      · subst h_k; grind [isGr, isRet, hasW, ungr, getK, up]
      · try simp only [up_ne h_k]
        first | exact p3c s j | (grind [isGr, isRet, hasW, ungr, getK, up])
  case r1 =>
    first
    | exact r1
    | skip
      intro j
      by_cases h_k : j = k
      · subst h_k; grind [isGr, isRet, hasW, ungr, getK, up]
      · try simp only [up_ne h_k]
        first | exact r1 j | (grind [isGr, isRet, hasW, ungr, getK, up])
  case r2 =>
    first
    | exact r2
    | skip
      intro j
      by_cases h_k : j = k
      · subst h_k; grind [isGr, isRet, hasW, ungr, getK, up]
      · try simp only [up_ne h_k]
        first | exact r2 j | (grind [isGr, isRet, hasW, ungr, getK, up])
  case r3 =>
    first
    | exact r3
    | skip
      intro s
      intro hsv; cases hsv
      grind [isGr, isRet, hasW, ungr, getK, up]
  case r4 =>
    first
    | exact r4
    | skip
      intro j
      by_cases h_k : j = k
      · subst h_k; grind [isGr, isRet, hasW, ungr, getK, up]
      · try simp only [up_ne h_k]
        first | exact r4 j | (grind [isGr, isRet, hasW, ungr, getK, up])
  case r5 =>
    first
    | exact r5
    | skip
      intro j e
      by_cases h_k : j = k
      · subst h_k; grind [isGr, isRet, hasW, ungr, getK, up]
      · try simp only [up_ne h_k]
        first | exact r5 j e | (grind [isGr, isRet, hasW, ungr, getK, up])
  case r6 =>
    first
    | exact r6
    | skip
      intro j
      by_cases h_k : j = k
      · subst h_k; grind [isGr, isRet, hasW, ungr, getK, up]
      · try simp only [up_ne h_k]
        first | exact r6 j | (grind [isGr, isRet, hasW, ungr, getK, up])
  case r7 =>
    first
    | exact r7
    | skip
      intro j x y
      by_cases h_k : j = k
      · subst h_k; grind [isGr, isRet, hasW, ungr, getK, up]
      · try simp only [up_ne h_k]
        first | exact r7 j x y | (grind [isGr, isRet, hasW, ungr, getK, up])
  case rn =>
    first
    | exact rn
    | skip
      intro j
      by_cases h_k : j = k
      · subst h_k; grind [isGr, isRet, hasW, ungr, getK, up]
      · try simp only [up_ne h_k]
        first | exact rn j | (grind [isGr, isRet, hasW, ungr, getK, up])
  case lv =>
    first
    | exact lv
    | skip
      intro j
      by_cases h_k : j = k
      · subst h_k; grind [isGr, isRet, hasW, ungr, getK, up]
      · try simp only [up_ne h_k]
        first | exact lv j | (grind [isGr, isRet, hasW, ungr, getK, up])
  case vw =>
    first
    | exact vw
    | skip
      intro j x y
      by_cases h_k : j = k
      · subst h_k; grind [isGr, isRet, hasW, ungr, getK, up]
      · try simp only [up_ne h_k]
        first | exact vw j x y | (grind [isGr, isRet, hasW, ungr, getK, up])
  case lw =>
    first
    | exact lw
    | skip
      intro j x y
      by_cases h_k : j = k
      · subst h_k; grind [isGr, isRet, hasW, ungr, getK, up]
      · try simp only [up_ne h_k]
        first | exact lw j x y | (grind [isGr, isRet, hasW, ungr, getK, up])
  case hw =>
    first
    | exact hw
    | skip
      intro j x y
      by_cases h_k : j = k
      · subst h_k; grind [isGr, isRet, hasW, ungr, getK, up]
      · try simp only [up_ne h_k]
        first | exact hw j x y | (grind [isGr, isRet, hasW, ungr, getK, up])
  case tw =>
    first
    | exact tw
    | skip
      intro j x y
      by_cases h_k : j = k
      · subst h_k; grind [isGr, isRet, hasW, ungr, getK, up]
      · try simp only [up_ne h_k]
        first | exact tw j x y | (grind [isGr, isRet, hasW, ungr, getK, up])
  case pw =>
    first
    | exact pw
    | skip
      intro j x y
      by_cases h_k : j = k
      · subst h_k; grind [isGr, isRet, hasW, ungr, getK, up]
      · try simp only [up_ne h_k]
        first | exact pw j x y | (grind [isGr, isRet, hasW, ungr, getK, up])
  case shn =>
    first
    | exact shn
    | skip
      grind [isGr, isRet, hasW, ungr, getK, up]
  case shl =>
    first
    | exact shl
    | skip
      intro j
      by_cases h_k : j = k
      · subst h_k; grind [isGr, isRet, hasW, ungr, getK, up]
      · try simp only [up_ne h_k]
        first | exact shl j | (grind [isGr, isRet, hasW, ungr, getK, up])
  case own =>
    first
    | exact own
    | skip
      intro j
      by_cases h_k : j = k
      · subst h_k; grind [isGr, isRet, hasW, ungr, getK, up]
      · try simp only [up_ne h_k]
        first | exact own j | (grind [isGr, isRet, hasW, ungr, getK, up])
  case pe =>
    first
    | exact pe
    | skip
      intro j x y
      by_cases h_k : j = k
      · subst h_k; grind [isGr, isRet, hasW, ungr, getK, up]
      · try simp only [up_ne h_k]
        first | exact pe j x y | (grind [isGr, isRet, hasW, ungr, getK, up])
  case ps =>
    first
    | exact ps
    | skip
      intro j x
      by_cases h_k : j = k
      · subst h_k; grind [isGr, isRet, hasW, ungr, getK, up]
      · try simp only [up_ne h_k]
        first | exact ps j x | (grind [isGr, isRet, hasW, ungr, getK, up])
  case ox =>
    first
    | exact ox
    | skip
      intro j
      by_cases h_k : j = k
      · subst h_k; grind [isGr, isRet, hasW, ungr, getK, up]
      · try simp only [up_ne h_k]
        first | exact ox j | (grind [isGr, isRet, hasW, ungr, getK, up])
  case pl =>
    first
    | exact pl
    | skip
      intro j
      by_cases h_k : j = k
      · subst h_k; grind [isGr, isRet, hasW, ungr, getK, up]
      · try simp only [up_ne h_k]
        first | exact pl j | (grind [isGr, isRet, hasW, ungr, getK, up])
  case rp =>
    first
    | exact rp
    | skip
      intro j x y
      by_cases h_k : j = k
      · subst h_k; grind [isGr, isRet, hasW, ungr, getK, up]
      · try simp only [up_ne h_k]
        first | exact rp j x y | (grind [isGr, isRet, hasW, ungr, getK, up])
  case cf =>
    first
    | exact cf
    | skip
      intro j
      by_cases h_k : j = k
      · subst h_k; grind [isGr, isRet, hasW, ungr, getK, up]
      · try simp only [up_ne h_k]
        first | exact cf j | (grind [isGr, isRet, hasW, ungr, getK, up])
  case gs =>
    first
    | exact gs
    | skip
      intro j x
      by_cases h_k : j = k
      · subst h_k; grind [isGr, isRet, hasW, ungr, getK, up]
      · try simp only [up_ne h_k]
        first | exact gs j x | (grind [isGr, isRet, hasW, ungr, getK, up])
  case ge =>
    first
    | exact ge
    | skip
      intro j x y
      by_cases h_k : j = k
      · subst h_k; grind [isGr, isRet, hasW, ungr, getK, up]
      · try simp only [up_ne h_k]
        first | exact ge j x y | (grind [isGr, isRet, hasW, ungr, getK, up])
  case ia =>
    first
    | exact ia
    | skip
      intro j
      by_cases h_k : j = k
      · subst h_k; grind [isGr, isRet, hasW, ungr, getK, up]
      · try simp only [up_ne h_k]
        first | exact ia j | (grind [isGr, isRet, hasW, ungr, getK, up])
  case rt =>
    first
    | exact rt
    | skip
      intro j x y
      by_cases h_k : j = k
      · subst h_k; grind [isGr, isRet, hasW, ungr, getK, up]
      · try simp only [up_ne h_k]
        first | exact rt j x y | (grind [isGr, isRet, hasW, ungr, getK, up])
  case re =>
    first
    | exact re
    | skip
      intro j s
      intro hret hsv; cases hsv
      by_cases h_k : j = k
      · subst h_k; grind [isGr, isRet, hasW, ungr, getK, up]
      · try simp only [up_ne h_k]
        first | exact re j s | (grind [isGr, isRet, hasW, ungr, getK, up])
theorem t_reqW {k : Nat} {e : Bool} {aw : List Nat} (I : LInv n wl a) (hs : a.sv = none) (hq : a.q k = some (getK e)) (he : e = true) (ho : a.ow = none) (hn : aw.Nodup) (hne : aw ≠ []) (hsub : ∀ j, j ∈ aw ↔ (j ∈ a.sh ∧ j ≠ k)) :
    LInv n wl { a with sv := some ⟨k, true, aw, false, some wl, false⟩, q := up a.q k none, h := fun j => if j ∈ aw then some .inval else none } := by
  have J := I
  have h0 : ∀ j, a.h j = none := fun j => J.p0 j hs
  have hRe : a.R k = some e := by
    cases z : a.R k with
    | none => have := J.r1 k z; rw [hq] at this; cases this
    | some e' => have := J.r5 k e' z; cases e <;> cases e' <;> simp_all [getK]
  have hkn : k < n := J.rn k (by rw [hRe]; simp)
  obtain ⟨p0, p1, p1a, p1b, p2, p2a, p2b, p3, p3a, p3b, p3c, r1, r2, r3, r4, r5, r6, r7, rn, lv, vw, lw, hw, tw, pw, shn, shl, own, pe, ps, ox, pl, rp, cf, gs, ge, ia, rt, re⟩ := I
  constructor
  case p0 =>
    first
    | exact p0
    | skip
      intro j
      by_cases h_k : j = k
      · subst h_k; grind [isGr, isRet, hasW, ungr, getK, up]
      · try simp only [up_ne h_k]
        first | exact p0 j | (grind [isGr, isRet, hasW, ungr, getK, up])
  case p1 =>
    first
    | exact p1
    | skip
      intro s
      intro hsv; cases hsv
      grind [isGr, isRet, hasW, ungr, getK, up]
  case p1a =>
    first
    | exact p1a
    | skip
      intro s j
      intro hsv; cases hsv
      by_cases h_k : j = k
      · subst h_k; grind [isGr, isRet, hasW, ungr, getK, up]
      · try simp only [up_ne h_k]
        first | exact p1a s j | (grind [isGr, isRet, hasW, ungr, getK, up])
  case p1b =>
    first
    | exact p1b
    | skip
      intro s
      intro hsv; cases hsv
      grind [isGr, isRet, hasW, ungr, getK, up]
  case p2 =>
    first
    | exact p2
    | skip
      intro s
      intro hsv; cases hsv
      grind [isGr, isRet, hasW, ungr, getK, up]
  case p2a =>
    first
    | exact p2a
    | skip
      intro s j
      intro hsv; cases hsv
      by_cases h_k : j = k
      · subst h_k; grind [isGr, isRet, hasW, ungr, getK, up]
      · try simp only [up_ne h_k]
        first | exact p2a s j | (grind [isGr, isRet, hasW, ungr, getK, up])
  case p2b =>
    first
    | exact p2b
    | skip
      intro s j
      intro hsv; cases hsv
      by_cases h_k : j = k
      · subst h_k; grind [isGr, isRet, hasW, ungr, getK, up]
      · try simp only [up_ne h_k]
        first | exact p2b s j | (grind [isGr, isRet, hasW, ungr, getK, up])
  case p3 =>
    first
    | exact p3
    | skip
      intro s
      intro hsv; cases hsv
      grind [isGr, isRet, hasW, ungr, getK, up]
  case p3a =>
    first
    | exact p3a
    | skip
      intro s j
      intro hsv; cases hsv
      by_cases h_k : j = k
      · subst h_k; grind [isGr, isRet, hasW, ungr, getK, up]
      · try simp only [up_ne h_k]
        first | exact p3a s j | (grind [isGr, isRet, hasW, ungr, getK, up])
  case p3b =>
    first
    | exact p3b
    | skip
      intro s j
      intro hsv; cases hsv
      by_cases h_k : j = k
      · subst h_k; grind [isGr, isRet, hasW, ungr, getK, up]
      · try simp only [up_ne h_k]
        first | exact p3b s j | (grind [isGr, isRet, hasW, ungr, getK, up])
  case p3c =>
    first
    | exact p3c
    | skip
      intro s j
      intro hsv; cases hsv
      by_cases h_k : j = k
      · subst h_k; grind [isGr, isRet, hasW, ungr, getK, up]
      · try simp only [up_ne h_k]
        first | exact p3c s j | (grind [isGr, isRet, hasW, ungr, getK, up])
  case r1 =>
    first
    | exact r1
    | skip
      intro j
      by_cases h_k : j = k
      · subst h_k; grind [isGr, isRet, hasW, ungr, getK, up]
      · try simp only [up_ne h_k]
        first | exact r1 j | (grind [isGr, isRet, hasW, ungr, getK, up])
  case r2 =>
    first
    | exact r2
    | skip
      intro j
      by_cases h_k : j = k
      · subst h_k; grind [isGr, isRet, hasW, ungr, getK, up]
      · try simp only [up_ne h_k]
        first | exact r2 j | (grind [isGr, isRet, hasW, ungr, getK, up])
  case r3 =>
    first
    | exact r3
    | skip
      intro s
      intro hsv; cases hsv
      grind [isGr, isRet, hasW, ungr, getK, up]
  case r4 =>
    first
    | exact r4
    | skip
      intro j
      by_cases h_k : j = k
      · subst h_k; grind [isGr, isRet, hasW, ungr, getK, up]
      · try simp only [up_ne h_k]
        first | exact r4 j | (grind [isGr, isRet, hasW, ungr, getK, up])
  case r5 =>
    first
    | exact r5
    | skip
      intro j e
      by_cases h_k : j = k
      · subst h_k; grind [isGr, isRet, hasW, ungr, getK, up]
      · try simp only [up_ne h_k]
        first | exact r5 j e | (grind [isGr, isRet, hasW, ungr, getK, up])
  case r6 =>
    first
    | exact r6
    | skip
      intro j
      by_cases h_k : j = k
      · subst h_k; grind [isGr, isRet, hasW, ungr, getK, up]
      · try simp only [up_ne h_k]
        first | exact r6 j | (grind [isGr, isRet, hasW, ungr, getK, up])
  case r7 =>
    first
    | exact r7
    | skip
      intro j x y
      by_cases h_k : j = k
      · subst h_k; grind [isGr, isRet, hasW, ungr, getK, up]
      · try simp only [up_ne h_k]
        first | exact r7 j x y | (grind [isGr, isRet, hasW, ungr, getK, up])
  case rn =>
    first
    | exact rn
    | skip
      intro j
      by_cases h_k : j = k
      · subst h_k; grind [isGr, isRet, hasW, ungr, getK, up]
      · try simp only [up_ne h_k]
        first | exact rn j | (grind [isGr, isRet, hasW, ungr, getK, up])
  case lv =>
    first
    | exact lv
    | skip
      intro j
      by_cases h_k : j = k
      · subst h_k; grind [isGr, isRet, hasW, ungr, getK, up]
      · try simp only [up_ne h_k]
        first | exact lv j | (grind [isGr, isRet, hasW, ungr, getK, up])
  case vw =>
    first
    | exact vw
    | skip
      intro j x y
      by_cases h_k : j = k
      · subst h_k; grind [isGr, isRet, hasW, ungr, getK, up]
      · try simp only [up_ne h_k]
        first | exact vw j x y | (grind [isGr, isRet, hasW, ungr, getK, up])
  case lw =>
    first
    | exact lw
    | skip
      intro j x y
      by_cases h_k : j = k
      · subst h_k; grind [isGr, isRet, hasW, ungr, getK, up]
      · try simp only [up_ne h_k]
        first | exact lw j x y | (grind [isGr, isRet, hasW, ungr, getK, up])
  case hw =>
    first
    | exact hw
    | skip
      intro j x y
      by_cases h_k : j = k
      · subst h_k; grind [isGr, isRet, hasW, ungr, getK, up]
      · try simp only [up_ne h_k]
        first | exact hw j x y | (grind [isGr, isRet, hasW, ungr, getK, up])
  case tw =>
    first
    | exact tw
    | skip
      intro j x y
      by_cases h_k : j = k
      · subst h_k; grind [isGr, isRet, hasW, ungr, getK, up]
      · try simp only [up_ne h_k]
        first | exact tw j x y | (grind [isGr, isRet, hasW, ungr, getK, up])
  case pw =>
    first
    | exact pw
    | skip
      intro j x y
      by_cases h_k : j = k
      · subst h_k; grind [isGr, isRet, hasW, ungr, getK, up]
      · try simp only [up_ne h_k]
        first | exact pw j x y | (grind [isGr, isRet, hasW, ungr, getK, up])
  case shn =>
    first
    | exact shn
    | skip
      grind [isGr, isRet, hasW, ungr, getK, up]
  case shl =>
    first
    | exact shl
    | skip
      intro j
      by_cases h_k : j = k
      · subst h_k; grind [isGr, isRet, hasW, ungr, getK, up]
      · try simp only [up_ne h_k]
        first | exact shl j | (grind [isGr, isRet, hasW, ungr, getK, up])
  case own =>
    first
    | exact own
    | skip
      intro j
      by_cases h_k : j = k
      · subst h_k; grind [isGr, isRet, hasW, ungr, getK, up]
      · try simp only [up_ne h_k]
        first | exact own j | (grind [isGr, isRet, hasW, ungr, getK, up])
  case pe =>
    first
    | exact pe
    | skip
      intro j x y
      by_cases h_k : j = k
      · subst h_k; grind [isGr, isRet, hasW, ungr, getK, up]
      · try simp only [up_ne h_k]
        first | exact pe j x y | (grind [isGr, isRet, hasW, ungr, getK, up])
  case ps =>
    first
    | exact ps
    | skip
      intro j x
      by_cases h_k : j = k
      · subst h_k; grind [isGr, isRet, hasW, ungr, getK, up]
      · try simp only [up_ne h_k]
        first | exact ps j x | (grind [isGr, isRet, hasW, ungr, getK, up])
  case ox =>
    first
    | exact ox
    | skip
      intro j
      by_cases h_k : j = k
      · subst h_k; grind [isGr, isRet, hasW, ungr, getK, up]
      · try simp only [up_ne h_k]
        first | exact ox j | (grind [isGr, isRet, hasW, ungr, getK, up])
  case pl =>
    first
    | exact pl
    | skip
      intro j
      by_cases h_k : j = k
      · subst h_k; grind [isGr, isRet, hasW, ungr, getK, up]
      · try simp only [up_ne h_k]
        first | exact pl j | (grind [isGr, isRet, hasW, ungr, getK, up])
  case rp =>
    first
    | exact rp
    | skip
      intro j x y
      by_cases h_k : j = k
      · subst h_k; grind [isGr, isRet, hasW, ungr, getK, up]
      · try simp only [up_ne h_k]
        first | exact rp j x y | (grind [isGr, isRet, hasW, ungr, getK, up])
  case cf =>
    first
    | exact cf
    | skip
      intro j
      by_cases h_k : j = k
      · subst h_k; grind [isGr, isRet, hasW, ungr, getK, up]
      · try simp only [up_ne h_k]
        first | exact cf j | (grind [isGr, isRet, hasW, ungr, getK, up])
  case gs =>
    first
    | exact gs
    | skip
      intro j x
      by_cases h_k : j = k
      · subst h_k; grind [isGr, isRet, hasW, ungr, getK, up]
      · try simp only [up_ne h_k]
        first | exact gs j x | (grind [isGr, isRet, hasW, ungr, getK, up])
  case ge =>
    first
    | exact ge
    | skip
      intro j x y
      by_cases h_k : j = k
      · subst h_k; grind [isGr, isRet, hasW, ungr, getK, up]
      · try simp only [up_ne h_k]
        first | exact ge j x y | (grind [isGr, isRet, hasW, ungr, getK, up])
  case ia =>
    first
    | exact ia
    | skip
      intro j
      by_cases h_k : j = k
      · subst h_k; grind [isGr, isRet, hasW, ungr, getK, up]
      · try simp only [up_ne h_k]
        first | exact ia j | (grind [isGr, isRet, hasW, ungr, getK, up])
  case rt =>
    first
    | exact rt
    | skip
      intro j x y
      by_cases h_k : j = k
      · subst h_k; grind [isGr, isRet, hasW, ungr, getK, up]
      · try simp only [up_ne h_k]
        first | exact rt j x y | (grind [isGr, isRet, hasW, ungr, getK, up])
  case re =>
    first
    | exact re
    | skip
      intro j s
      intro hret hsv; cases hsv
      by_cases h_k : j = k
      · subst h_k; grind [isGr, isRet, hasW, ungr, getK, up]
      · try simp only [up_ne h_k]
        first | exact re j s | (grind [isGr, isRet, hasW, ungr, getK, up])
theorem t_retM {k : Nat} {w : Option Nat} {d : Bool} {s : Serv} {w0 : Option Nat} (I : LInv n wl a) (hs : a.sv = some s) (hh : a.h k = some (.returned w d)) (hx : s.ex = true) :
    LInv n wl { a with ow := some s.c, sh := [], sv := some ⟨s.c, s.ex, s.wait, false, w0, true⟩, h := up (up a.h k none) s.c (some (.grant .M wl)) } := by
  have J := I
  obtain ⟨s0, e1, e2, e3, e4, e5, e6, e7⟩ := J.at_returned hh
  obtain rfl : s = s0 := Option.some.inj (hs.symm.trans e1)
  have hothers : ∀ j, j ≠ k → a.h j = none := fun j z => J.p2a s j hs e2 e3 (by rw [e4]; intro q; exact z (Option.some.inj q).symm)
  have hR := J.r3 s hs e2
  have hcn : s.c < n := J.rn _ (by rw [hR.1]; simp)
  have hkn : k < n := (J.own k e4).1
  have hiR : isRet (a.h k) = true := by rw [hh]; rfl
  obtain ⟨p0, p1, p1a, p1b, p2, p2a, p2b, p3, p3a, p3b, p3c, r1, r2, r3, r4, r5, r6, r7, rn, lv, vw, lw, hw, tw, pw, shn, shl, own, pe, ps, ox, pl, rp, cf, gs, ge, ia, rt, re⟩ := I
  constructor
  case p0 =>
    first
    | exact p0
    | skip
      intro j
      by_cases h_k : j = k
      · subst h_k; grind [isGr, isRet, hasW, ungr, getK, up]
      · try simp only [up_ne h_k]
        first | exact p0 j | (grind [isGr, isRet, hasW, ungr, getK, up])
  case p1 =>
    first
    | exact p1
    | skip
      intro s
      intro hsv; cases hsv
      grind [isGr, isRet, hasW, ungr, getK, up]
  case p1a =>
    first
    | exact p1a
    | skip
      intro s j
      intro hsv; cases hsv
      by_cases h_k : j = k
      · subst h_k; grind [isGr, isRet, hasW, ungr, getK, up]
      · try simp only [up_ne h_k]
        first | exact p1a s j | (grind [isGr, isRet, hasW, ungr, getK, up])
  case p1b =>
    first
    | exact p1b
    | skip
      intro s
      intro hsv; cases hsv
      grind [isGr, isRet, hasW, ungr, getK, up]
  case p2 =>
    first
    | exact p2
    | skip
      intro s
      intro hsv; cases hsv
      grind [isGr, isRet, hasW, ungr, getK, up]
  case p2a =>
    first
    | exact p2a
    | skip
      intro s j
      intro hsv; cases hsv
      by_cases h_k : j = k
      · subst h_k; grind [isGr, isRet, hasW, ungr, getK, up]
      · try simp only [up_ne h_k]
        first | exact p2a s j | (grind [isGr, isRet, hasW, ungr, getK, up])
  case p2b =>
    first
    | exact p2b
    | skip
      intro s j
      intro hsv; cases hsv
      by_cases h_k : j = k
      · subst h_k; grind [isGr, isRet, hasW, ungr, getK, up]
      · try simp only [up_ne h_k]
        first | exact p2b s j | (grind [isGr, isRet, hasW, ungr, getK, up])
  case p3 =>
    first
    | exact p3
    | skip
      intro s
      intro hsv; cases hsv
      grind [isGr, isRet, hasW, ungr, getK, up]
  case p3a =>
    first
    | exact p3a
    | skip
      intro s j
      intro hsv; cases hsv
      by_cases h_k : j = k
      · subst h_k; grind [isGr, isRet, hasW, ungr, getK, up]
      · try simp only [up_ne h_k]
        first | exact p3a s j | (grind [isGr, isRet, hasW, ungr, getK, up])
  case p3b =>
    first
    | exact p3b
    | skip
      intro s j
      intro hsv; cases hsv
      by_cases h_k : j = k
      · subst h_k; grind [isGr, isRet, hasW, ungr, getK, up]
      · try simp only [up_ne h_k]
        first | exact p3b s j | (grind [isGr, isRet, hasW, ungr, getK, up])
  case p3c =>
    first
    | exact p3c
    | skip
      intro s j
      intro hsv; cases hsv
      by_cases h_k : j = k
      · subst h_k; grind [isGr, isRet, hasW, ungr, getK, up]
      · try simp only [up_ne h_k]
        first | exact p3c s j | (grind [isGr, isRet, hasW, ungr, getK, up])
  case r1 =>
    first
    | exact r1
    | skip
      intro j
      by_cases h_k : j = k
      · subst h_k; grind [isGr, isRet, hasW, ungr, getK, up]
      · try simp only [up_ne h_k]
        first | exact r1 j | (grind [isGr, isRet, hasW, ungr, getK, up])
  case r2 =>
    first
    | exact r2
    | skip
      intro j
      by_cases h_k : j = k
      · subst h_k; grind [isGr, isRet, hasW, ungr, getK, up]
      · try simp only [up_ne h_k]
        first | exact r2 j | (grind [isGr, isRet, hasW, ungr, getK, up])
  case r3 =>
    first
    | exact r3
    | skip
      intro s
      intro hsv; cases hsv
      grind [isGr, isRet, hasW, ungr, getK, up]
  case r4 =>
    first
    | exact r4
    | skip
      intro j
      by_cases h_k : j = k
      · subst h_k; grind [isGr, isRet, hasW, ungr, getK, up]
      · try simp only [up_ne h_k]
        first | exact r4 j | (grind [isGr, isRet, hasW, ungr, getK, up])
  case r5 =>
    first
    | exact r5
    | skip
      intro j e
      by_cases h_k : j = k
      · subst h_k; grind [isGr, isRet, hasW, ungr, getK, up]
      · try simp only [up_ne h_k]
        first | exact r5 j e | (grind [isGr, isRet, hasW, ungr, getK, up])
  case r6 =>
    first
    | exact r6
    | skip
      intro j
      by_cases h_k : j = k
      · subst h_k; grind [isGr, isRet, hasW, ungr, getK, up]
      · try simp only [up_ne h_k]
        first | exact r6 j | (grind [isGr, isRet, hasW, ungr, getK, up])
  case r7 =>
    first
    | exact r7
    | skip
      intro j x y
      by_cases h_k : j = k
      · subst h_k; grind [isGr, isRet, hasW, ungr, getK, up]
      · try simp only [up_ne h_k]
        first | exact r7 j x y | (grind [isGr, isRet, hasW, ungr, getK, up])
  case rn =>
    first
    | exact rn
    | skip
      intro j
      by_cases h_k : j = k
      · subst h_k; grind [isGr, isRet, hasW, ungr, getK, up]
      · try simp only [up_ne h_k]
        first | exact rn j | (grind [isGr, isRet, hasW, ungr, getK, up])
  case lv =>
    first
    | exact lv
    | skip
      intro j
      by_cases h_k : j = k
      · subst h_k; grind [isGr, isRet, hasW, ungr, getK, up]
      · try simp only [up_ne h_k]
        first | exact lv j | (grind [isGr, isRet, hasW, ungr, getK, up])
  case vw =>
    first
    | exact vw
    | skip
      intro j x y
      by_cases h_k : j = k
      · subst h_k; grind [isGr, isRet, hasW, ungr, getK, up]
      · try simp only [up_ne h_k]
        first | exact vw j x y | (grind [isGr, isRet, hasW, ungr, getK, up])
  case lw =>
    first
    | exact lw
    | skip
      intro j x y
      by_cases h_k : j = k
      · subst h_k; grind [isGr, isRet, hasW, ungr, getK, up]
      · try simp only [up_ne h_k]
        first | exact lw j x y | (grind [isGr, isRet, hasW, ungr, getK, up])
  case hw =>
    first
    | exact hw
    | skip
      intro j x y
      by_cases h_k : j = k
      · subst h_k; grind [isGr, isRet, hasW, ungr, getK, up]
      · try simp only [up_ne h_k]
        first | exact hw j x y | (grind [isGr, isRet, hasW, ungr, getK, up])
  case tw =>
    first
    | exact tw
    | skip
      intro j x y
      by_cases h_k : j = k
      · subst h_k; grind [isGr, isRet, hasW, ungr, getK, up]
      · try simp only [up_ne h_k]
        first | exact tw j x y | (grind [isGr, isRet, hasW, ungr, getK, up])
  case pw =>
    first
    | exact pw
    | skip
      intro j x y
      by_cases h_k : j = k
      · subst h_k; grind [isGr, isRet, hasW, ungr, getK, up]
      · try simp only [up_ne h_k]
        first | exact pw j x y | (grind [isGr, isRet, hasW, ungr, getK, up])
  case shn =>
    first
    | exact shn
    | skip
      grind [isGr, isRet, hasW, ungr, getK, up]
  case shl =>
    first
    | exact shl
    | skip
      intro j
      by_cases h_k : j = k
      · subst h_k; grind [isGr, isRet, hasW, ungr, getK, up]
      · try simp only [up_ne h_k]
        first | exact shl j | (grind [isGr, isRet, hasW, ungr, getK, up])
  case own =>
    first
    | exact own
    | skip
      intro j
      by_cases h_k : j = k
      · subst h_k; grind [isGr, isRet, hasW, ungr, getK, up]
      · try simp only [up_ne h_k]
        first | exact own j | (grind [isGr, isRet, hasW, ungr, getK, up])
  case pe =>
    first
    | exact pe
    | skip
      intro j x y
      by_cases h_k : j = k
      · subst h_k; grind [isGr, isRet, hasW, ungr, getK, up]
      · try simp only [up_ne h_k]
        first | exact pe j x y | (grind [isGr, isRet, hasW, ungr, getK, up])
  case ps =>
    first
    | exact ps
    | skip
      intro j x
      by_cases h_k : j = k
      · subst h_k; grind [isGr, isRet, hasW, ungr, getK, up]
      · try simp only [up_ne h_k]
        first | exact ps j x | (grind [isGr, isRet, hasW, ungr, getK, up])
  case ox =>
    first
    | exact ox
    | skip
      intro j
      by_cases h_k : j = k
      · subst h_k; grind [isGr, isRet, hasW, ungr, getK, up]
      · try simp only [up_ne h_k]
        first | exact ox j | (grind [isGr, isRet, hasW, ungr, getK, up])
  case pl =>
    first
    | exact pl
    | skip
      intro j
      by_cases h_k : j = k
      · subst h_k; grind [isGr, isRet, hasW, ungr, getK, up]
      · try simp only [up_ne h_k]
        first | exact pl j | (grind [isGr, isRet, hasW, ungr, getK, up])
  case rp =>
    first
    | exact rp
    | skip
      intro j x y
      by_cases h_k : j = k
      · subst h_k; grind [isGr, isRet, hasW, ungr, getK, up]
      · try simp only [up_ne h_k]
        first | exact rp j x y | (grind [isGr, isRet, hasW, ungr, getK, up])
  case cf =>
    first
    | exact cf
    | skip
      intro j
      by_cases h_k : j = k
      · subst h_k; grind [isGr, isRet, hasW, ungr, getK, up]
      · try simp only [up_ne h_k]
        first | exact cf j | (grind [isGr, isRet, hasW, ungr, getK, up])
  case gs =>
    first
    | exact gs
    | skip
      intro j x
      by_cases h_k : j = k
      · subst h_k; grind [isGr, isRet, hasW, ungr, getK, up]
      · try simp only [up_ne h_k]
        first | exact gs j x | (grind [isGr, isRet, hasW, ungr, getK, up])
  case ge =>
    first
    | exact ge
    | skip
      intro j x y
      by_cases h_k : j = k
      · subst h_k; grind [isGr, isRet, hasW, ungr, getK, up]
      · try simp only [up_ne h_k]
        first | exact ge j x y | (grind [isGr, isRet, hasW, ungr, getK, up])
  case ia =>
    first
    | exact ia
    | skip
      intro j
      by_cases h_k : j = k
      · subst h_k; grind [isGr, isRet, hasW, ungr, getK, up]
      · try simp only [up_ne h_k]
        first | exact ia j | (grind [isGr, isRet, hasW, ungr, getK, up])
  case rt =>
    first
    | exact rt
    | skip
      intro j x y
      by_cases h_k : j = k
      · subst h_k; grind [isGr, isRet, hasW, ungr, getK, up]
      · try simp only [up_ne h_k]
        first | exact rt j x y | (grind [isGr, isRet, hasW, ungr, getK, up])
  case re =>
    first
    | exact re
    | skip
      intro j s
      intro hret hsv; cases hsv
      by_cases h_k : j = k
      · subst h_k; grind [isGr, isRet, hasW, ungr, getK, up]
      · try simp only [up_ne h_k]
        first | exact re j s | (grind [isGr, isRet, hasW, ungr, getK, up])
theorem t_retS {k : Nat} {w : Option Nat} {d : Bool} {s : Serv} {w0 : Option Nat} (I : LInv n wl a) (hs : a.sv = some s) (hh : a.h k = some (.returned w d)) (hx : s.ex = false) :
    LInv n wl { a with ow := none, sh := [k, s.c], sv := some ⟨s.c, s.ex, s.wait, false, w0, true⟩, h := up (up a.h k none) s.c (some (.grant .S wl)) } := by
  have J := I
  obtain ⟨s0, e1, e2, e3, e4, e5, e6, e7⟩ := J.at_returned hh
  obtain rfl : s = s0 := Option.some.inj (hs.symm.trans e1)
  have hothers : ∀ j, j ≠ k → a.h j = none := fun j z => J.p2a s j hs e2 e3 (by rw [e4]; intro q; exact z (Option.some.inj q).symm)
  have hR := J.r3 s hs e2
  have hcn : s.c < n := J.rn _ (by rw [hR.1]; simp)
  have hkn : k < n := (J.own k e4).1
  have hiR : isRet (a.h k) = true := by rw [hh]; rfl
  obtain ⟨p0, p1, p1a, p1b, p2, p2a, p2b, p3, p3a, p3b, p3c, r1, r2, r3, r4, r5, r6, r7, rn, lv, vw, lw, hw, tw, pw, shn, shl, own, pe, ps, ox, pl, rp, cf, gs, ge, ia, rt, re⟩ := I
  constructor
  case p0 =>
    first
    | exact p0
    | skip
      intro j
      by_cases h_k : j = k
      · subst h_k; grind [isGr, isRet, hasW, ungr, getK, up]
      · try simp only [up_ne h_k]
        first | exact p0 j | (grind [isGr, isRet, hasW, ungr, getK, up])
  case p1 =>
    first
    | exact p1
    | skip
      intro s
      intro hsv; cases hsv
      grind [isGr, isRet, hasW, ungr, getK, up]
  case p1a =>
    first
    | exact p1a
    | skip
      intro s j
      intro hsv; cases hsv
      by_cases h_k : j = k
      · subst h_k; grind [isGr, isRet, hasW, ungr, getK, up]
      · try simp only [up_ne h_k]
        first | exact p1a s j | (grind [isGr, isRet, hasW, ungr, getK, up])
  case p1b =>
    first
    | exact p1b
    | skip
      intro s
      intro hsv; cases hsv
      grind [isGr, isRet, hasW, ungr, getK, up]
  case p2 =>
    first
    | exact p2
    | skip
      intro s
      intro hsv; cases hsv
      grind [isGr, isRet, hasW, ungr, getK, up]
  case p2a =>
    first
    | exact p2a
    | skip
      intro s j
      intro hsv; cases hsv
      by_cases h_k : j = k
      · subst h_k; grind [isGr, isRet, hasW, ungr, getK, up]
      · try simp only [up_ne h_k]
        first | exact p2a s j | (grind [isGr, isRet, hasW, ungr, getK, up])
  case p2b =>
    first
    | exact p2b
    | skip
      intro s j
      intro hsv; cases hsv
      by_cases h_k : j = k
      · subst h_k; grind [isGr, isRet, hasW, ungr, getK, up]
      · try simp only [up_ne h_k]
        first | exact p2b s j | (grind [isGr, isRet, hasW, ungr, getK, up])
  case p3 =>
    first
    | exact p3
    | skip
      intro s
      intro hsv; cases hsv
      grind [isGr, isRet, hasW, ungr, getK, up]
  case p3a =>
    first
    | exact p3a
    | skip
      intro s j
      intro hsv; cases hsv
      by_cases h_k : j = k
      · subst h_k; grind [isGr, isRet, hasW, ungr, getK, up]
      · try simp only [up_ne h_k]
        first | exact p3a s j | (grind [isGr, isRet, hasW, ungr, getK, up])
  case p3b =>
    first
    | exact p3b
    | skip
      intro s j
      intro hsv; cases hsv
      by_cases h_k : j = k
      · subst h_k; grind [isGr, isRet, hasW, ungr, getK, up]
      · try simp only [up_ne h_k]
        first | exact p3b s j | (grind [isGr, isRet, hasW, ungr, getK, up])
  case p3c =>
    first
    | exact p3c
    | skip
      intro s j
      intro hsv; cases hsv
      by_cases h_k : j = k
      · subst h_k; grind [isGr, isRet, hasW, ungr, getK, up]
      · try simp only [up_ne h_k]
        first | exact p3c s j | (grind [isGr, isRet, hasW, ungr, getK, up])
  case r1 =>
    first
    | exact r1
    | skip
      intro j
      by_cases h_k : j = k
      · subst h_k; grind [isGr, isRet, hasW, ungr, getK, up]
      · try simp only [up_ne h_k]
        first | exact r1 j | (grind [isGr, isRet, hasW, ungr, getK, up])
  case r2 =>
    first
    | exact r2
    | skip
      intro j
      by_cases h_k : j = k
      · subst h_k; grind [isGr, isRet, hasW, ungr, getK, up]
      · try simp only [up_ne h_k]
        first | exact r2 j | (grind [isGr, isRet, hasW, ungr, getK, up])
  case r3 =>
    first
    | exact r3
    | skip
      intro s
      intro hsv; cases hsv
      grind [isGr, isRet, hasW, ungr, getK, up]
  case r4 =>
    first
    | exact r4
    | skip
      intro j
      by_cases h_k : j = k
      · subst h_k; grind [isGr, isRet, hasW, ungr, getK, up]
      · try simp only [up_ne h_k]
        first | exact r4 j | (grind [isGr, isRet, hasW, ungr, getK, up])
  case r5 =>
    first
    | exact r5
    | skip
      intro j e
      by_cases h_k : j = k
      · subst h_k; grind [isGr, isRet, hasW, ungr, getK, up]
      · try simp only [up_ne h_k]
        first | exact r5 j e | (grind [isGr, isRet, hasW, ungr, getK, up])
  case r6 =>
    first
    | exact r6
    | skip
      intro j
      by_cases h_k : j = k
      · subst h_k; grind [isGr, isRet, hasW, ungr, getK, up]
      · try simp only [up_ne h_k]
        first | exact r6 j | (grind [isGr, isRet, hasW, ungr, getK, up])
  case r7 =>
    first
    | exact r7
    | skip
      intro j x y
      by_cases h_k : j = k
      · subst h_k; grind [isGr, isRet, hasW, ungr, getK, up]
      · try simp only [up_ne h_k]
        first | exact r7 j x y | (grind [isGr, isRet, hasW, ungr, getK, up])
  case rn =>
    first
    | exact rn
    | skip
      intro j
      by_cases h_k : j = k
      · subst h_k; grind [isGr, isRet, hasW, ungr, getK, up]
      · try simp only [up_ne h_k]
        first | exact rn j | (grind [isGr, isRet, hasW, ungr, getK, up])
  case lv =>
    first
    | exact lv
    | skip
      intro j
      by_cases h_k : j = k
      · subst h_k; grind [isGr, isRet, hasW, ungr, getK, up]
      · try simp only [up_ne h_k]
        first | exact lv j | (grind [isGr, isRet, hasW, ungr, getK, up])
  case vw =>
    first
    | exact vw
    | skip
      intro j x y
      by_cases h_k : j = k
      · subst h_k; grind [isGr, isRet, hasW, ungr, getK, up]
      · try simp only [up_ne h_k]
        first | exact vw j x y | (grind [isGr, isRet, hasW, ungr, getK, up])
  case lw =>
    first
    | exact lw
    | skip
      intro j x y
      by_cases h_k : j = k
      · subst h_k; grind [isGr, isRet, hasW, ungr, getK, up]
      · try simp only [up_ne h_k]
        first | exact lw j x y | (grind [isGr, isRet, hasW, ungr, getK, up])
  case hw =>
    first
    | exact hw
    | skip
      intro j x y
      by_cases h_k : j = k
      · subst h_k; grind [isGr, isRet, hasW, ungr, getK, up]
      · try simp only [up_ne h_k]
        first | exact hw j x y | (grind [isGr, isRet, hasW, ungr, getK, up])
  case tw =>
    first
    | exact tw
    | skip
      intro j x y
      by_cases h_k : j = k
      · subst h_k; grind [isGr, isRet, hasW, ungr, getK, up]
      · try simp only [up_ne h_k]
        first | exact tw j x y | (grind [isGr, isRet, hasW, ungr, getK, up])
  case pw =>
    first
    | exact pw
    | skip
      intro j x y
      by_cases h_k : j = k
      · subst h_k; grind [isGr, isRet, hasW, ungr, getK, up]
      · try simp only [up_ne h_k]
        first | exact pw j x y | (grind [isGr, isRet, hasW, ungr, getK, up])
  case shn =>
    first
    | exact shn
    | skip
      grind [isGr, isRet, hasW, ungr, getK, up]
  case shl =>
    first
    | exact shl
    | skip
      intro j
      by_cases h_k : j = k
      · subst h_k; grind [isGr, isRet, hasW, ungr, getK, up]
      · try simp only [up_ne h_k]
        first | exact shl j | (grind [isGr, isRet, hasW, ungr, getK, up])
  case own =>
    first
    | exact own
    | skip
      intro j
      by_cases h_k : j = k
      · subst h_k; grind [isGr, isRet, hasW, ungr, getK, up]
      · try simp only [up_ne h_k]
        first | exact own j | (grind [isGr, isRet, hasW, ungr, getK, up])
  case pe =>
    first
    | exact pe
    | skip
      intro j x y
      by_cases h_k : j = k
      · subst h_k; grind [isGr, isRet, hasW, ungr, getK, up]
      · try simp only [up_ne h_k]
        first | exact pe j x y | (grind [isGr, isRet, hasW, ungr, getK, up])
  case ps =>
    first
    | exact ps
    | skip
      intro j x
      by_cases h_k : j = k
      · subst h_k; grind [isGr, isRet, hasW, ungr, getK, up]
      · try simp only [up_ne h_k]
        first | exact ps j x | (grind [isGr, isRet, hasW, ungr, getK, up])
  case ox =>
    first
    | exact ox
    | skip
      intro j
      by_cases h_k : j = k
      · subst h_k; grind [isGr, isRet, hasW, ungr, getK, up]
      · try simp only [up_ne h_k]
        first | exact ox j | (grind [isGr, isRet, hasW, ungr, getK, up])
  case pl =>
    first
    | exact pl
    | skip
      intro j
      by_cases h_k : j = k
      · subst h_k; grind [isGr, isRet, hasW, ungr, getK, up]
      · try simp only [up_ne h_k]
        first | exact pl j | (grind [isGr, isRet, hasW, ungr, getK, up])
  case rp =>
    first
    | exact rp
    | skip
      intro j x y
      by_cases h_k : j = k
      · subst h_k; grind [isGr, isRet, hasW, ungr, getK, up]
      · try simp only [up_ne h_k]
        first | exact rp j x y | (grind [isGr, isRet, hasW, ungr, getK, up])
  case cf =>
    first
    | exact cf
    | skip
      intro j
      by_cases h_k : j = k
      · subst h_k; grind [isGr, isRet, hasW, ungr, getK, up]
      · try simp only [up_ne h_k]
        first | exact cf j | (grind [isGr, isRet, hasW, ungr, getK, up])
  case gs =>
    first
    | exact gs
    | skip
      intro j x
      by_cases h_k : j = k
      · subst h_k; grind [isGr, isRet, hasW, ungr, getK, up]
      · try simp only [up_ne h_k]
        first | exact gs j x | (grind [isGr, isRet, hasW, ungr, getK, up])
  case ge =>
    first
    | exact ge
    | skip
      intro j x y
      by_cases h_k : j = k
      · subst h_k; grind [isGr, isRet, hasW, ungr, getK, up]
      · try simp only [up_ne h_k]
        first | exact ge j x y | (grind [isGr, isRet, hasW, ungr, getK, up])
  case ia =>
    first
    | exact ia
    | skip
      intro j
      by_cases h_k : j = k
      · subst h_k; grind [isGr, isRet, hasW, ungr, getK, up]
      · try simp only [up_ne h_k]
        first | exact ia j | (grind [isGr, isRet, hasW, ungr, getK, up])
  case rt =>
    first
    | exact rt
    | skip
      intro j x y
      by_cases h_k : j = k
      · subst h_k; grind [isGr, isRet, hasW, ungr, getK, up]
      · try simp only [up_ne h_k]
        first | exact rt j x y | (grind [isGr, isRet, hasW, ungr, getK, up])
  case re =>
    first
    | exact re
    | skip
      intro j s
      intro hret hsv; cases hsv
      by_cases h_k : j = k
      · subst h_k; grind [isGr, isRet, hasW, ungr, getK, up]
      · try simp only [up_ne h_k]
        first | exact re j s | (grind [isGr, isRet, hasW, ungr, getK, up])
theorem t_invW {k : Nat} {s : Serv} {aw sh : List Nat} (I : LInv n wl a) (hs : a.sv = some s) (hh : a.h k = some .invald) (hn : aw.Nodup) (hn2 : sh.Nodup) (hne : aw ≠ []) (haw : ∀ j, j ∈ aw ↔ (j ∈ s.wait ∧ j ≠ k)) (hsh : ∀ j, j ∈ sh ↔ (j ∈ a.sh ∧ j ≠ k)) :
    LInv n wl { a with sh := sh, sv := some ⟨s.c, s.ex, aw, s.rcl, s.w, s.gr⟩, h := up a.h k none } := by
  have J := I
  obtain ⟨s0, e1, e2, e3, e4, e5, e6, e7⟩ := J.at_inval (.inr hh)
  obtain rfl : s = s0 := Option.some.inj (hs.symm.trans e1)
  have hR := J.r3 s hs e2
  have hcn : s.c < n := J.rn _ (by rw [hR.1]; simp)
  have hP3 := J.p3 s hs e2 e3
  obtain ⟨p0, p1, p1a, p1b, p2, p2a, p2b, p3, p3a, p3b, p3c, r1, r2, r3, r4, r5, r6, r7, rn, lv, vw, lw, hw, tw, pw, shn, shl, own, pe, ps, ox, pl, rp, cf, gs, ge, ia, rt, re⟩ := I
  constructor
  case p0 =>
    first
    | exact p0
    | skip
      intro j
      by_cases h_k : j = k
      · subst h_k; grind [isGr, isRet, hasW, ungr, getK, up]
      · try simp only [up_ne h_k]
        first | exact p0 j | (grind [isGr, isRet, hasW, ungr, getK, up])
  case p1 =>
    first
    | exact p1
    | skip
      intro s
      intro hsv; cases hsv
      grind [isGr, isRet, hasW, ungr, getK, up]
  case p1a =>
    first
    | exact p1a
    | skip
      intro s j
      intro hsv; cases hsv
      by_cases h_k : j = k
      · subst h_k; grind [isGr, isRet, hasW, ungr, getK, up]
      · try simp only [up_ne h_k]
        first | exact p1a s j | (grind [isGr, isRet, hasW, ungr, getK, up])
  case p1b =>
    first
    | exact p1b
    | skip
      intro s
      intro hsv; cases hsv
      grind [isGr, isRet, hasW, ungr, getK, up]
  case p2 =>
    first
    | exact p2
    | skip
      intro s
      intro hsv; cases hsv
      grind [isGr, isRet, hasW, ungr, getK, up]
  case p2a =>
    first
    | exact p2a
    | skip
      intro s j
      intro hsv; cases hsv
      by_cases h_k : j = k
      · subst h_k; grind [isGr, isRet, hasW, ungr, getK, up]
      · try simp only [up_ne h_k]
        first | exact p2a s j | (grind [isGr, isRet, hasW, ungr, getK, up])
  case p2b =>
    first
    | exact p2b
    | skip
      intro s j
      intro hsv; cases hsv
      by_cases h_k : j = k
      · subst h_k; grind [isGr, isRet, hasW, ungr, getK, up]
      · try simp only [up_ne h_k]
        first | exact p2b s j | (grind [isGr, isRet, hasW, ungr, getK, up])
  case p3 =>
    first
    | exact p3
    | skip
      intro s
      intro hsv; cases hsv
      grind [isGr, isRet, hasW, ungr, getK, up]
  case p3a =>
    first
    | exact p3a
    | skip
      intro s j
      intro hsv; cases hsv
      by_cases h_k : j = k
      · subst h_k; grind [isGr, isRet, hasW, ungr, getK, up]
      · try simp only [up_ne h_k]
        first | exact p3a s j | (grind [isGr, isRet, hasW, ungr, getK, up])
  case p3b =>
    first
    | exact p3b
    | skip
      intro s j
      intro hsv; cases hsv
      by_cases h_k : j = k
      · subst h_k; grind [isGr, isRet, hasW, ungr, getK, up]
      · try simp only [up_ne h_k]
        first | exact p3b s j | (grind [isGr, isRet, hasW, ungr, getK, up])
  case p3c =>
    first
    | exact p3c
    | skip
      intro s j
      intro hsv; cases hsv
      by_cases h_k : j = k
      · subst h_k; grind [isGr, isRet, hasW, ungr, getK, up]
      · try simp only [up_ne h_k]
        first | exact p3c s j | (grind [isGr, isRet, hasW, ungr, getK, up])
  case r1 =>
    first
    | exact r1
    | skip
      intro j
      by_cases h_k : j = k
      · subst h_k; grind [isGr, isRet, hasW, ungr, getK, up]
      · try simp only [up_ne h_k]
        first | exact r1 j | (grind [isGr, isRet, hasW, ungr, getK, up])
  case r2 =>
    first
    | exact r2
    | skip
      intro j
      by_cases h_k : j = k
      · subst h_k; grind [isGr, isRet, hasW, ungr, getK, up]
      · try simp only [up_ne h_k]
        first | exact r2 j | (grind [isGr, isRet, hasW, ungr, getK, up])
  case r3 =>
    first
    | exact r3
    | skip
      intro s
      intro hsv; cases hsv
      grind [isGr, isRet, hasW, ungr, getK, up]
  case r4 =>
    first
    | exact r4
    | skip
      intro j
      by_cases h_k : j = k
      · subst h_k; grind [isGr, isRet, hasW, ungr, getK, up]
      · try simp only [up_ne h_k]
        first | exact r4 j | (grind [isGr, isRet, hasW, ungr, getK, up])
  case r5 =>
    first
    | exact r5
    | skip
      intro j e
      by_cases h_k : j = k
      · subst h_k; grind [isGr, isRet, hasW, ungr, getK, up]
      · try simp only [up_ne h_k]
        first | exact r5 j e | (grind [isGr, isRet, hasW, ungr, getK, up])
  case r6 =>
    first
    | exact r6
    | skip
      intro j
      by_cases h_k : j = k
      · subst h_k; grind [isGr, isRet, hasW, ungr, getK, up]
      · try simp only [up_ne h_k]
        first | exact r6 j | (grind [isGr, isRet, hasW, ungr, getK, up])
  case r7 =>
    first
    | exact r7
    | skip
      intro j x y
      by_cases h_k : j = k
      · subst h_k; grind [isGr, isRet, hasW, ungr, getK, up]
      · try simp only [up_ne h_k]
        first | exact r7 j x y | (grind [isGr, isRet, hasW, ungr, getK, up])
  case rn =>
    first
    | exact rn
    | skip
      intro j
      by_cases h_k : j = k
      · subst h_k; grind [isGr, isRet, hasW, ungr, getK, up]
      · try simp only [up_ne h_k]
        first | exact rn j | (grind [isGr, isRet, hasW, ungr, getK, up])
  case lv =>
    first
    | exact lv
    | skip
      intro j
      by_cases h_k : j = k
      · subst h_k; grind [isGr, isRet, hasW, ungr, getK, up]
      · try simp only [up_ne h_k]
        first | exact lv j | (grind [isGr, isRet, hasW, ungr, getK, up])
  case vw =>
    first
    | exact vw
    | skip
      intro j x y
      by_cases h_k : j = k
      · subst h_k; grind [isGr, isRet, hasW, ungr, getK, up]
      · try simp only [up_ne h_k]
        first | exact vw j x y | (grind [isGr, isRet, hasW, ungr, getK, up])
  case lw =>
    first
    | exact lw
    | skip
      intro j x y
      by_cases h_k : j = k
      · subst h_k; grind [isGr, isRet, hasW, ungr, getK, up]
      · try simp only [up_ne h_k]
        first | exact lw j x y | (grind [isGr, isRet, hasW, ungr, getK, up])
  case hw =>
    first
    | exact hw
    | skip
      intro j x y
      by_cases h_k : j = k
      · subst h_k; grind [isGr, isRet, hasW, ungr, getK, up]
      · try simp only [up_ne h_k]
        first | exact hw j x y | (grind [isGr, isRet, hasW, ungr, getK, up])
  case tw =>
    first
    | exact tw
    | skip
      intro j x y
      by_cases h_k : j = k
      · subst h_k; grind [isGr, isRet, hasW, ungr, getK, up]
      · try simp only [up_ne h_k]
        first | exact tw j x y | (grind [isGr, isRet, hasW, ungr, getK, up])
  case pw =>
    first
    | exact pw
    | skip
      intro j x y
      by_cases h_k : j = k
      · subst h_k; grind [isGr, isRet, hasW, ungr, getK, up]
      · try simp only [up_ne h_k]
        first | exact pw j x y | (grind [isGr, isRet, hasW, ungr, getK, up])
  case shn =>
    first
    | exact shn
    | skip
      grind [isGr, isRet, hasW, ungr, getK, up]
  case shl =>
    first
    | exact shl
    | skip
      intro j
      by_cases h_k : j = k
      · subst h_k; grind [isGr, isRet, hasW, ungr, getK, up]
      · try simp only [up_ne h_k]
        first | exact shl j | (grind [isGr, isRet, hasW, ungr, getK, up])
  case own =>
    first
    | exact own
    | skip
      intro j
      by_cases h_k : j = k
      · subst h_k; grind [isGr, isRet, hasW, ungr, getK, up]
      · try simp only [up_ne h_k]
        first | exact own j | (grind [isGr, isRet, hasW, ungr, getK, up])
  case pe =>
    first
    | exact pe
    | skip
      intro j x y
      by_cases h_k : j = k
      · subst h_k; grind [isGr, isRet, hasW, ungr, getK, up]
      · try simp only [up_ne h_k]
        first | exact pe j x y | (grind [isGr, isRet, hasW, ungr, getK, up])
  case ps =>
    first
    | exact ps
    | skip
      intro j x
      by_cases h_k : j = k
      · subst h_k; grind [isGr, isRet, hasW, ungr, getK, up]
      · try simp only [up_ne h_k]
        first | exact ps j x | (grind [isGr, isRet, hasW, ungr, getK, up])
  case ox =>
    first
    | exact ox
    | skip
      intro j
      by_cases h_k : j = k
      · subst h_k; grind [isGr, isRet, hasW, ungr, getK, up]
      · try simp only [up_ne h_k]
        first | exact ox j | (grind [isGr, isRet, hasW, ungr, getK, up])
  case pl =>
    first
    | exact pl
    | skip
      intro j
      by_cases h_k : j = k
      · subst h_k; grind [isGr, isRet, hasW, ungr, getK, up]
      · try simp only [up_ne h_k]
        first | exact pl j | (grind [isGr, isRet, hasW, ungr, getK, up])
  case rp =>
    first
    | exact rp
    | skip
      intro j x y
      by_cases h_k : j = k
      · subst h_k; grind [isGr, isRet, hasW, ungr, getK, up]
      · try simp only [up_ne h_k]
        first | exact rp j x y | (grind [isGr, isRet, hasW, ungr, getK, up])
  case cf =>
    first
    | exact cf
    | skip
      intro j
      by_cases h_k : j = k
      · subst h_k; grind [isGr, isRet, hasW, ungr, getK, up]
      · try simp only [up_ne h_k]
        first | exact cf j | (grind [isGr, isRet, hasW, ungr, getK, up])
  case gs =>
    first
    | exact gs
    | skip
      intro j x
      by_cases h_k : j = k
      · subst h_k; grind [isGr, isRet, hasW, ungr, getK, up]
      · try simp only [up_ne h_k]
        first | exact gs j x | (grind [isGr, isRet, hasW, ungr, getK, up])
  case ge =>
    first
    | exact ge
    | skip
      intro j x y
      by_cases h_k : j = k
      · subst h_k; grind [isGr, isRet, hasW, ungr, getK, up]
      · try simp only [up_ne h_k]
        first | exact ge j x y | (grind [isGr, isRet, hasW, ungr, getK, up])
  case ia =>
    first
    | exact ia
    | skip
      intro j
      by_cases h_k : j = k
      · subst h_k; grind [isGr, isRet, hasW, ungr, getK, up]
      · try simp only [up_ne h_k]
        first | exact ia j | (grind [isGr, isRet, hasW, ungr, getK, up])
  case rt =>
    first
    | exact rt
    | skip
      intro j x y
      by_cases h_k : j = k
      · subst h_k; grind [isGr, isRet, hasW, ungr, getK, up]
      · try simp only [up_ne h_k]
        first | exact rt j x y | (grind [isGr, isRet, hasW, ungr, getK, up])
  case re =>
    first
    | exact re
    | skip
      intro j s
      intro hret hsv; cases hsv
      by_cases h_k : j = k
      · subst h_k; grind [isGr, isRet, hasW, ungr, getK, up]
      · try simp only [up_ne h_k]
        first | exact re j s | (grind [isGr, isRet, hasW, ungr, getK, up])
theorem t_invM {k : Nat} {s : Serv} {w0 : Option Nat} (I : LInv n wl a) (hs : a.sv = some s) (hh : a.h k = some .invald) (haw : ∀ j, j ∈ s.wait → j = k) :
    LInv n wl { a with ow := some s.c, sh := [], sv := some ⟨s.c, s.ex, [], s.rcl, w0, true⟩, h := up (up a.h k none) s.c (some (.grant .M wl)) } := by
  have J := I
  obtain ⟨s0, e1, e2, e3, e4, e5, e6, e7⟩ := J.at_inval (.inr hh)
  obtain rfl : s = s0 := Option.some.inj (hs.symm.trans e1)
  have hR := J.r3 s hs e2
  have hcn : s.c < n := J.rn _ (by rw [hR.1]; simp)
  have hP3 := J.p3 s hs e2 e3
  obtain ⟨p0, p1, p1a, p1b, p2, p2a, p2b, p3, p3a, p3b, p3c, r1, r2, r3, r4, r5, r6, r7, rn, lv, vw, lw, hw, tw, pw, shn, shl, own, pe, ps, ox, pl, rp, cf, gs, ge, ia, rt, re⟩ := I
  constructor
  case p0 =>
    first
    | exact p0
    | skip
      intro j
      by_cases h_k : j = k
      · subst h_k; grind [isGr, isRet, hasW, ungr, getK, up]
      · try simp only [up_ne h_k]
        first | exact p0 j | (grind [isGr, isRet, hasW, ungr, getK, up])
  case p1 =>
    first
    | exact p1
    | skip
      intro s
      intro hsv; cases hsv
      grind [isGr, isRet, hasW, ungr, getK, up]
  case p1a =>
    first
    | exact p1a
    | skip
      intro s j
      intro hsv; cases hsv
      by_cases h_k : j = k
      · subst h_k; grind [isGr, isRet, hasW, ungr, getK, up]
      · try simp only [up_ne h_k]
        first | exact p1a s j | (grind [isGr, isRet, hasW, ungr, getK, up])
  case p1b =>
    first
    | exact p1b
    | skip
      intro s
      intro hsv; cases hsv
      grind [isGr, isRet, hasW, ungr, getK, up]
  case p2 =>
    first
    | exact p2
    | skip
      intro s
      intro hsv; cases hsv
      grind [isGr, isRet, hasW, ungr, getK, up]
  case p2a =>
    first
    | exact p2a
    | skip
      intro s j
      intro hsv; cases hsv
      by_cases h_k : j = k
      · subst h_k; grind [isGr, isRet, hasW, ungr, getK, up]
      · try simp only [up_ne h_k]
        first | exact p2a s j | (grind [isGr, isRet, hasW, ungr, getK, up])
  case p2b =>
    first
    | exact p2b
    | skip
      intro s j
      intro hsv; cases hsv
      by_cases h_k : j = k
      · subst h_k; grind [isGr, isRet, hasW, ungr, getK, up]
      · try simp only [up_ne h_k]
        first | exact p2b s j | (grind [isGr, isRet, hasW, ungr, getK, up])
  case p3 =>
    first
    | exact p3
    | skip
      intro s
      intro hsv; cases hsv
      grind [isGr, isRet, hasW, ungr, getK, up]
  case p3a =>
    first
    | exact p3a
    | skip
      intro s j
      intro hsv; cases hsv
      by_cases h_k : j = k
      · subst h_k; grind [isGr, isRet, hasW, ungr, getK, up]
      · try simp only [up_ne h_k]
        first | exact p3a s j | (grind [isGr, isRet, hasW, ungr, getK, up])
  case p3b =>
    first
    | exact p3b
    | skip
      intro s j
      intro hsv; cases hsv
      by_cases h_k : j = k
      · subst h_k; grind [isGr, isRet, hasW, ungr, getK, up]
      · try simp only [up_ne h_k]
        first | exact p3b s j | (grind [isGr, isRet, hasW, ungr, getK, up])
  case p3c =>
    first
    | exact p3c
    | skip
      intro s j
      intro hsv; cases hsv
      by_cases h_k : j = k
      · subst h_k; grind [isGr, isRet, hasW, ungr, getK, up]
      · try simp only [up_ne h_k]
        first | exact p3c s j | (grind [isGr, isRet, hasW, ungr, getK, up])
  case r1 =>
    first
    | exact r1
    | skip
      intro j
      by_cases h_k : j = k
      · subst h_k; grind [isGr, isRet, hasW, ungr, getK, up]
      · try simp only [up_ne h_k]
        first | exact r1 j | (grind [isGr, isRet, hasW, ungr, getK, up])
  case r2 =>
    first
    | exact r2
    | skip
      intro j
      by_cases h_k : j = k
      · subst h_k; grind [isGr, isRet, hasW, ungr, getK, up]
      · try simp only [up_ne h_k]
        first | exact r2 j | (grind [isGr, isRet, hasW, ungr, getK, up])
  case r3 =>
    first
    | exact r3
    | skip
      intro s
      intro hsv; cases hsv
      grind [isGr, isRet, hasW, ungr, getK, up]
  case r4 =>
    first
    | exact r4
    | skip
      intro j
      by_cases h_k : j = k
      · subst h_k; grind [isGr, isRet, hasW, ungr, getK, up]
      · try simp only [up_ne h_k]
        first | exact r4 j | (grind [isGr, isRet, hasW, ungr, getK, up])
  case r5 =>
    first
    | exact r5
    | skip
      intro j e
      by_cases h_k : j = k
      · subst h_k; grind [isGr, isRet, hasW, ungr, getK, up]
      · try simp only [up_ne h_k]
        first | exact r5 j e | (grind [isGr, isRet, hasW, ungr, getK, up])
  case r6 =>
    first
    | exact r6
    | skip
      intro j
      by_cases h_k : j = k
      · subst h_k; grind [isGr, isRet, hasW, ungr, getK, up]
      · try simp only [up_ne h_k]
        first | exact r6 j | (grind [isGr, isRet, hasW, ungr, getK, up])
  case r7 =>
    first
    | exact r7
    | skip
      intro j x y
      by_cases h_k : j = k
      · subst h_k; grind [isGr, isRet, hasW, ungr, getK, up]
      · try simp only [up_ne h_k]
        first | exact r7 j x y | (grind [isGr, isRet, hasW, ungr, getK, up])
  case rn =>
    first
    | exact rn
    | skip
      intro j
      by_cases h_k : j = k
      · subst h_k; grind [isGr, isRet, hasW, ungr, getK, up]
      · try simp only [up_ne h_k]
        first | exact rn j | (grind [isGr, isRet, hasW, ungr, getK, up])
  case lv =>
    first
    | exact lv
    | skip
      intro j
      by_cases h_k : j = k
      · subst h_k; grind [isGr, isRet, hasW, ungr, getK, up]
      · try simp only [up_ne h_k]
        first | exact lv j | (grind [isGr, isRet, hasW, ungr, getK, up])
  case vw =>
    first
    | exact vw
    | skip
      intro j x y
      by_cases h_k : j = k
      · subst h_k; grind [isGr, isRet, hasW, ungr, getK, up]
      · try simp only [up_ne h_k]
        first | exact vw j x y | (grind [isGr, isRet, hasW, ungr, getK, up])
  case lw =>
    first
    | exact lw
    | skip
      intro j x y
      by_cases h_k : j = k
      · subst h_k; grind [isGr, isRet, hasW, ungr, getK, up]
      · try simp only [up_ne h_k]
        first | exact lw j x y | (grind [isGr, isRet, hasW, ungr, getK, up])
  case hw =>
    first
    | exact hw
    | skip
      intro j x y
      by_cases h_k : j = k
      · subst h_k; grind [isGr, isRet, hasW, ungr, getK, up]
      · try simp only [up_ne h_k]
        first | exact hw j x y | (grind [isGr, isRet, hasW, ungr, getK, up])
  case tw =>
    first
    | exact tw
    | skip
      intro j x y
      by_cases h_k : j = k
      · subst h_k; grind [isGr, isRet, hasW, ungr, getK, up]
      · try simp only [up_ne h_k]
        first | exact tw j x y | (grind [isGr, isRet, hasW, ungr, getK, up])
  case pw =>
    first
    | exact pw
    | skip
      intro j x y
      by_cases h_k : j = k
      · subst h_k; grind [isGr, isRet, hasW, ungr, getK, up]
      · try simp only [up_ne h_k]
        first | exact pw j x y | (grind [isGr, isRet, hasW, ungr, getK, up])
  case shn =>
    first
    | exact shn
    | skip
      grind [isGr, isRet, hasW, ungr, getK, up]
  case shl =>
    first
    | exact shl
    | skip
      intro j
      by_cases h_k : j = k
      · subst h_k; grind [isGr, isRet, hasW, ungr, getK, up]
      · try simp only [up_ne h_k]
        first | exact shl j | (grind [isGr, isRet, hasW, ungr, getK, up])
  case own =>
    first
    | exact own
    | skip
      intro j
      by_cases h_k : j = k
      · subst h_k; grind [isGr, isRet, hasW, ungr, getK, up]
      · try simp only [up_ne h_k]
        first | exact own j | (grind [isGr, isRet, hasW, ungr, getK, up])
  case pe =>
    first
    | exact pe
    | skip
      intro j x y
      by_cases h_k : j = k
      · subst h_k; grind [isGr, isRet, hasW, ungr, getK, up]
      · try simp only [up_ne h_k]
        first | exact pe j x y | (grind [isGr, isRet, hasW, ungr, getK, up])
  case ps =>
    first
    | exact ps
    | skip
      intro j x
      by_cases h_k : j = k
      · subst h_k; grind [isGr, isRet, hasW, ungr, getK, up]
      · try simp only [up_ne h_k]
        first | exact ps j x | (grind [isGr, isRet, hasW, ungr, getK, up])
  case ox =>
    first
    | exact ox
    | skip
      intro j
      by_cases h_k : j = k
      · subst h_k; grind [isGr, isRet, hasW, ungr, getK, up]
      · try simp only [up_ne h_k]
        first | exact ox j | (grind [isGr, isRet, hasW, ungr, getK, up])
  case pl =>
    first
    | exact pl
    | skip
      intro j
      by_cases h_k : j = k
      · subst h_k; grind [isGr, isRet, hasW, ungr, getK, up]
      · try simp only [up_ne h_k]
        first | exact pl j | (grind [isGr, isRet, hasW, ungr, getK, up])
  case rp =>
    first
    | exact rp
    | skip
      intro j x y
      by_cases h_k : j = k
      · subst h_k; grind [isGr, isRet, hasW, ungr, getK, up]
      · try simp only [up_ne h_k]
        first | exact rp j x y | (grind [isGr, isRet, hasW, ungr, getK, up])
  case cf =>
    first
    | exact cf
    | skip
      intro j
      by_cases h_k : j = k
      · subst h_k; grind [isGr, isRet, hasW, ungr, getK, up]
      · try simp only [up_ne h_k]
        first | exact cf j | (grind [isGr, isRet, hasW, ungr, getK, up])
  case gs =>
    first
    | exact gs
    | skip
      intro j x
      by_cases h_k : j = k
      · subst h_k; grind [isGr, isRet, hasW, ungr, getK, up]
      · try simp only [up_ne h_k]
        first | exact gs j x | (grind [isGr, isRet, hasW, ungr, getK, up])
  case ge =>
    first
    | exact ge
    | skip
      intro j x y
      by_cases h_k : j = k
      · subst h_k; grind [isGr, isRet, hasW, ungr, getK, up]
      · try simp only [up_ne h_k]
        first | exact ge j x y | (grind [isGr, isRet, hasW, ungr, getK, up])
  case ia =>
    first
    | exact ia
    | skip
      intro j
      by_cases h_k : j = k
      · subst h_k; grind [isGr, isRet, hasW, ungr, getK, up]
      · try simp only [up_ne h_k]
        first | exact ia j | (grind [isGr, isRet, hasW, ungr, getK, up])
  case rt =>
    first
    | exact rt
    | skip
      intro j x y
      by_cases h_k : j = k
      · subst h_k; grind [isGr, isRet, hasW, ungr, getK, up]
      · try simp only [up_ne h_k]
        first | exact rt j x y | (grind [isGr, isRet, hasW, ungr, getK, up])
  case re =>
    first
    | exact re
    | skip
      intro j s
      intro hret hsv; cases hsv
      by_cases h_k : j = k
      · subst h_k; grind [isGr, isRet, hasW, ungr, getK, up]
      · try simp only [up_ne h_k]
        first | exact re j s | (grind [isGr, isRet, hasW, ungr, getK, up])
end
end LK
/-! Entries by line, messages by core, line and class. -/
namespace LK
section
variable {β : Type}
theorem get_nil (l : Nat) : get ([] : List (Nat × β)) l = none := rfl
theorem get_cons (e : Nat × β) (es : List (Nat × β)) (l : Nat) : get (e :: es) l = if e.1 = l then some e.2 else get es l := by
  unfold get
  rw [List.find?_cons]
  by_cases h : e.1 = l
  · simp [h]
  · have h2 : (e.1 == l) = false := by simp [h]
    rw [h2, if_neg h]
theorem get_none {es : List (Nat × β)} {l : Nat} : get es l = none ↔ ∀ e ∈ es, e.1 ≠ l := by
  unfold get
  simp [List.find?_eq_none]
theorem get_wo (es : List (Nat × β)) (l l' : Nat) : get (wo es l) l' = if l' = l then none else get es l' := by
  unfold wo
  induction es with
  | nil => simp [get_nil]
  | cons e es ih =>
    rw [List.filter_cons]
    by_cases h : e.1 = l
    · simp only [h, bne_self_eq_false, Bool.false_eq_true, if_false]
      rw [ih, get_cons, h]
      by_cases h2 : l' = l
      · simp [h2]
      · simp [h2, Ne.symm h2]
    · simp only [bne_iff_ne, ne_eq, h, not_false_eq_true, if_true]
      rw [get_cons, get_cons, ih]
      by_cases h2 : l' = l
      · subst h2; simp [h]
      · simp [h2]
theorem get_app (es : List (Nat × β)) (l : Nat) (b : β) (l' : Nat) : get (es ++ [(l, b)]) l' = match get es l' with | some x => some x | none => if l' = l then some b else none := by
  induction es with
  | nil =>
    simp only [List.nil_append, get_cons, get_nil]
    by_cases h : l' = l
    · simp [h]
    · simp [h, Ne.symm h]
  | cons e es ih =>
    rw [List.cons_append, get_cons, get_cons, ih]
    by_cases h : e.1 = l' <;> simp [h]
theorem get_we (es : List (Nat × β)) (l : Nat) (b : β) (l' : Nat) : get (we es l b) l' = if l' = l then (get es l).map (fun _ => b) else get es l' := by
  unfold we
  induction es with
  | nil => simp [get_nil]
  | cons e es ih =>
    rw [List.map_cons, get_cons, ih, get_cons, get_cons]
    by_cases h : e.1 = l
    · by_cases h2 : l' = l
      · subst h2; simp [h]
      · have h3 : ¬ l = l' := fun q => h2 q.symm
        have h4 : ¬ e.1 = l' := fun q => h2 (q.symm.trans h)
        simp [h, h2, h3]
    · by_cases h2 : l' = l
      · subst h2; simp [h]
      · simp [h, h2]
theorem wo_keys (es : List (Nat × β)) (l : Nat) (h : (es.map (·.1)).Nodup) : ((wo es l).map (·.1)).Nodup := by
  unfold wo
  exact h.sublist (List.Sublist.map _ List.filter_sublist)
theorem wo_not_mem (es : List (Nat × β)) (l : Nat) : l ∉ (wo es l).map (·.1) := by
  unfold wo
  simp
theorem we_keys (es : List (Nat × β)) (l : Nat) (b : β) : (we es l b).map (·.1) = es.map (·.1) := by
  unfold we
  rw [List.map_map]
  apply List.map_congr_left
  intro e _
  by_cases h : e.1 = l <;> simp [h]
theorem app_keys {es : List (Nat × β)} {l : Nat} {b : β} (h : (es.map (·.1)).Nodup) (hn : l ∉ es.map (·.1)) : ((es ++ [(l, b)]).map (·.1)).Nodup := by
  rw [List.map_append, List.nodup_append]
  refine ⟨h, by simp, ?_⟩
  intro x hx y hy
  simp at hy
  intro e
  subst e; subst hy
  exact hn hx
theorem get_mem {es : List (Nat × β)} {l : Nat} {b : β} (h : get es l = some b) : (l, b) ∈ es := by
  unfold get at h
  rw [Option.map_eq_some_iff] at h
  obtain ⟨e, h1, h2⟩ := h
  have h3 := List.find?_some h1
  have h4 := List.mem_of_find?_eq_some h1
  simp at h3
  rw [← h3, ← h2]
  exact h4
theorem get_key {es : List (Nat × β)} {l : Nat} : get es l ≠ none ↔ l ∈ es.map (·.1) := by
  rw [Ne, get_none]
  constructor
  · intro h
    simp only [Classical.not_forall, Classical.not_not] at h
    obtain ⟨e, he, h⟩ := h
    exact List.mem_map.mpr ⟨e, he, h⟩
  · intro h q
    obtain ⟨e, he, h⟩ := List.mem_map.mp h
    exact q e he h
end
def MK.cls : MK → Nat
  | .getS | .getM => 0
  | .giveUp _ _ | .confirm => 1
  | _ => 2
def hit (k l c : Nat) (m : Msg) : Bool := m.c == k && (m.l == l && m.k.cls == c)
def part (net : List Msg) (k l c : Nat) : List MK := (net.filter (hit k l c)).map (·.k)
theorem part_append (a b : List Msg) (k l c : Nat) : part (a ++ b) k l c = part a k l c ++ part b k l c := by
  unfold part; rw [List.filter_append, List.map_append]
theorem part_nil (k l c : Nat) : part [] k l c = [] := rfl
theorem part_one (m : Msg) (k l c : Nat) : part [m] k l c = if hit k l c m = true then [m.k] else [] := by
  unfold part
  by_cases h : hit k l c m = true <;> simp [h]
theorem part_cons (m : Msg) (net : List Msg) (k l c : Nat) : part (m :: net) k l c = (if hit k l c m = true then [m.k] else []) ++ part net k l c := by
  rw [← part_one, ← part_append]; rfl
theorem split_at {α : Type} {xs : List α} {i : Nat} {x : α} (h : xs[i]? = some x) : xs = xs.take i ++ x :: xs.drop (i + 1) := by
  obtain ⟨h1, h2⟩ := List.getElem?_eq_some_iff.mp h
  rw [← h2, ← List.drop_eq_getElem_cons h1, List.take_append_drop]
theorem part_miss {net : List Msg} {i : Nat} {m : Msg} (h : net[i]? = some m) {k l c : Nat} (hm : hit k l c m = false) : part (net.take i ++ net.drop (i + 1)) k l c = part net k l c := by
  conv => rhs; rw [split_at h]
  rw [part_append, part_append, part_cons, hm]; simp
theorem part_hit {net : List Msg} {i : Nat} {m : Msg} (h : net[i]? = some m) {k l c : Nat} (hm : hit k l c m = true) {o : Option MK} (hp : part net k l c = o.toList) :
    o = some m.k ∧ part (net.take i ++ net.drop (i + 1)) k l c = [] := by
  rw [split_at h, part_append, part_cons, hm] at hp
  simp only [if_true] at hp
  cases o with
  | none => simp at hp
  | some x =>
    have h3 : part (net.take i) k l c = [] ∧ part (net.drop (i + 1)) k l c = [] ∧ m.k = x := by
      cases e : part (net.take i) k l c with
      | nil => rw [e] at hp; simp at hp; exact ⟨rfl, hp.2, hp.1⟩
      | cons y ys =>
        rw [e] at hp
        have := congrArg List.length hp
        simp at this
    rw [part_append, h3.1, h3.2.1, h3.2.2]
    exact ⟨rfl, rfl⟩
theorem part_inval {aw : List Nat} {l : Nat} (hn : aw.Nodup) (k l' c : Nat) : part (aw.map (fun x => (⟨x, l, .inval⟩ : Msg))) k l' c = if k ∈ aw ∧ l' = l ∧ c = 2 then [.inval] else [] := by
  induction aw with
  | nil => simp [part_nil]
  | cons x aw ih =>
    rw [List.map_cons, part_cons, ih hn.of_cons]
    have hx : x ∉ aw := (List.nodup_cons.mp hn).1
    unfold hit
    by_cases h1 : x = k
    · subst h1
      by_cases h2 : l' = l
      · by_cases h3 : c = 2
        · subst h2; subst h3; simp [hx, MK.cls]
        · simp [hx, MK.cls, h3, Ne.symm h3]
      · simp [hx, h2, Ne.symm h2]
    · simp [h1, Ne.symm h1]
theorem mem_rest {net : List Msg} {i : Nat} {x : Msg} (h : x ∈ net.take i ++ net.drop (i + 1)) : x ∈ net := by
  rcases List.mem_append.mp h with h | h
  · exact List.mem_of_mem_take h
  · exact List.mem_of_mem_drop h
end LK
/-! Ways of a set, sums over lists. -/
namespace LK
theorem cp_split (p : Nat → Bool) (l : Nat) : ∀ xs : List Nat, xs.countP p = (xs.filter (fun x => x != l)).countP p + (if p l = true then xs.count l else 0)
  | [] => by simp
  | x :: xs => by
    have ih := cp_split p l xs
    by_cases h : x = l
    · subst h
      by_cases hp : p x = true <;> simp [hp, ih] <;> omega
    · by_cases hp : p x = true <;> simp [hp, h, ih] <;> omega
def occK (g : Cfg) (lk rk : List Nat) (x : Nat) : Nat := lk.countP (inSet g x) + rk.countP (fun y => inSet g x y && !lk.contains y)
theorem occ_eq (g : Cfg) (c : Cache) (x : Nat) : occ g c x = occK g (c.lines.map (·.1)) (c.req.map (·.1)) x := by
  unfold occ occK
  show ((c.lines.filter (fun e => inSet g x e.1)).map (·.1)).length + (c.req.filter (fun e => inSet g x e.1 && !((c.lines.filter (fun e => inSet g x e.1)).map (·.1)).contains e.1)).length = _
  rw [List.countP_map, List.length_map, ← List.countP_eq_length_filter]
  congr 1
  rw [List.countP_map, ← List.countP_eq_length_filter]
  apply List.countP_congr
  intro e he
  by_cases h : inSet g x e.1 = true
  · simp [h]
  · simp [h]
theorem inSet_congr {g : Cfg} {x l : Nat} (h : inSet g x l = true) : inSet g x = inSet g l := by
  unfold inSet at *
  funext y
  simp at h
  rw [h]
theorem occ_set {g : Cfg} {c : Cache} {x l : Nat} (h : inSet g x l = true) : occ g c x = occ g c l := by
  rw [occ_eq, occ_eq]; unfold occK; rw [inSet_congr h]
theorem cp_keep {g : Cfg} {lk lk' rk : List Nat} {x : Nat} (h : ∀ y, y ∈ rk → inSet g x y = true → (y ∈ lk' ↔ y ∈ lk)) :
    rk.countP (fun y => inSet g x y && !lk'.contains y) = rk.countP (fun y => inSet g x y && !lk.contains y) := by
  apply List.countP_congr
  intro y hy
  by_cases hs : inSet g x y = true
  · have := h y hy hs; simp [hs, this]
  · simp [hs]
theorem mem_drop_key {lk : List Nat} {l y : Nat} : y ∈ lk.filter (fun x => x != l) ↔ y ∈ lk ∧ y ≠ l := by simp
/-- a line goes, requested or not -/
theorem occK_drop (g : Cfg) (lk rk : List Nat) (l x : Nat) (hr : rk.Nodup) : occK g (lk.filter (fun x => x != l)) rk x ≤ occK g lk rk x := by
  unfold occK
  rw [cp_split (inSet g x) l lk]
  have e1 := cp_split (fun y => inSet g x y && !(lk.filter (fun x => x != l)).contains y) l rk
  have e2 := cp_split (fun y => inSet g x y && !lk.contains y) l rk
  have e3 : (rk.filter (fun x => x != l)).countP (fun y => inSet g x y && !(lk.filter (fun x => x != l)).contains y) = (rk.filter (fun x => x != l)).countP (fun y => inSet g x y && !lk.contains y) := by
    apply cp_keep
    intro y hy _
    rw [mem_drop_key] at hy ⊢
    simp [hy.2]
  have e4 : rk.count l ≤ 1 := List.nodup_iff_count.mp hr l
  rw [e1, e2, e3]
  by_cases hs : inSet g x l = true
  · by_cases hl : l ∈ lk
    · have : 0 < lk.count l := List.count_pos_iff.mpr hl
      simp [hs, hl]; omega
    · have : lk.filter (fun x => x != l) = lk := by
        apply List.filter_eq_self.mpr
        intro y hy
        simp; intro q; exact hl (q ▸ hy)
      simp [hs, hl, this]
  · simp [hs]
/-- a line that is present and not requested goes: a way of its set is free -/
theorem occK_drop1 (g : Cfg) (lk rk : List Nat) (l x : Nat) (hr : l ∉ rk) (hl : l ∈ lk) (hs : inSet g x l = true) : occK g (lk.filter (fun x => x != l)) rk x + 1 ≤ occK g lk rk x := by
  unfold occK
  rw [cp_split (inSet g x) l lk]
  have e3 : rk.countP (fun y => inSet g x y && !(lk.filter (fun x => x != l)).contains y) = rk.countP (fun y => inSet g x y && !lk.contains y) := by
    apply cp_keep
    intro y hy _
    rw [mem_drop_key]
    have : y ≠ l := fun q => hr (q ▸ hy)
    simp [this]
  have : 0 < lk.count l := List.count_pos_iff.mpr hl
  rw [e3]
  simp [hs]; omega
/-- a requested line comes -/
theorem occK_grant (g : Cfg) (lk rk : List Nat) (l x : Nat) (hr : l ∈ rk) : occK g (lk.filter (fun x => x != l) ++ [l]) (rk.filter (fun x => x != l)) x ≤ occK g lk rk x := by
  unfold occK
  rw [List.countP_append, cp_split (inSet g x) l lk, cp_split (fun y => inSet g x y && !lk.contains y) l rk]
  have e3 : (rk.filter (fun x => x != l)).countP (fun y => inSet g x y && !(lk.filter (fun x => x != l) ++ [l]).contains y) = (rk.filter (fun x => x != l)).countP (fun y => inSet g x y && !lk.contains y) := by
    apply cp_keep
    intro y hy _
    rw [mem_drop_key] at hy
    rw [List.mem_append, mem_drop_key]
    simp [hy.2]
  rw [e3]
  have h0 : 0 < rk.count l := List.count_pos_iff.mpr hr
  by_cases hs : inSet g x l = true
  · by_cases hl : l ∈ lk
    · have : 0 < lk.count l := List.count_pos_iff.mpr hl
      simp [hs, hl]
    · have h1 : lk.count l = 0 := List.count_eq_zero.mpr hl
      simp [hs, hl]; omega
  · simp [hs]
/-- a line is requested -/
theorem occK_req (g : Cfg) (lk rk : List Nat) (l x : Nat) : occK g lk (rk ++ [l]) x ≤ occK g lk rk x + (if inSet g x l = true ∧ l ∉ lk then 1 else 0) := by
  unfold occK
  rw [List.countP_append]
  by_cases hs : inSet g x l = true
  · by_cases hl : l ∈ lk
    · simp [hs, hl]
    · simp [hs, hl]; omega
  · simp [hs]
theorem sum_rest {α : Type} (f : α → Nat) {net : List α} {i : Nat} {m : α} (h : net[i]? = some m) : (net.map f).sum = f m + ((net.take i ++ net.drop (i + 1)).map f).sum := by
  conv => lhs; rw [split_at h]
  simp only [List.map_append, List.map_cons, List.sum_append_nat, List.sum_cons]
  omega
theorem sum_set {α : Type} (f : α → Nat) : ∀ {xs : List α} {l : Nat} {h h' : α}, xs[l]? = some h → ((xs.set l h').map f).sum + f h = (xs.map f).sum + f h'
  | [], _, _, _, e => by simp at e
  | x :: xs, 0, h, h', e => by
    simp at e; subst e
    simp only [List.set_cons_zero, List.map_cons, List.sum_cons]; omega
  | x :: xs, l + 1, h, h', e => by
    have ih := sum_set f (xs := xs) (l := l) (h := h) (h' := h') (by simpa using e)
    simp only [List.set_cons_succ, List.map_cons, List.sum_cons]; omega
theorem nodup_lt : ∀ (n : Nat) (xs : List Nat), xs.Nodup → (∀ x ∈ xs, x < n) → xs.length ≤ n
  | 0, xs, _, h => by
    cases xs with
    | nil => simp
    | cons x xs => exact absurd (h x (by simp)) (by omega)
  | n + 1, xs, hn, h => by
    have h1 := nodup_lt n (xs.filter (fun x => x != n)) (hn.sublist List.filter_sublist) (fun x hx => by
      rw [mem_drop_key] at hx
      have := h x hx.1
      have := hx.2
      omega)
    have h2 := cp_split (fun _ => true) n xs
    have h3 := List.nodup_iff_count.mp hn n
    simp only [List.countP_true, if_true] at h2
    omega
end LK
set_option maxHeartbeats 1000000
/-! The memory system as a whole: its lines' views, what always holds, what one delivery does. -/
namespace LK
def cacheAt (s : Sys) (k : Nat) : Cache := s.caches.getD k ⟨[], [], []⟩
def homeAt (s : Sys) (l : Nat) : Home := s.homes.getD l ⟨none, [], none⟩
structure IsView (s : Sys) (l : Nat) (a : LV) : Prop where
  hm : homeAt s l = ⟨a.ow, a.sh, a.sv⟩
  P : ∀ k, get (cacheAt s k).lines l = a.P k
  R : ∀ k, get (cacheAt s k).req l = a.R k
  L : ∀ k, get (cacheAt s k).leav l = a.L k
  q : ∀ k, part s.net k l 0 = (a.q k).toList
  v : ∀ k, part s.net k l 1 = (a.v k).toList
  h : ∀ k, part s.net k l 2 = (a.h k).toList
inductive VStep (n wl : Nat) (a : LV) : LV → Prop
  | giveUp {k w : Nat} {d : Bool} (hs : a.sv = none) (hv : a.v k = some (.giveUp w d)) : VStep n wl a { a with ow := if a.ow = some k then none else a.ow, v := up a.v k (some .confirm) }
  | confirm {k : Nat} (hv : a.v k = some .confirm) : VStep n wl a { a with L := up a.L k none, v := up a.v k none }
  | recallP {k w : Nat} {keep : Bool} {st : S3} (hh : a.h k = some (.recall keep)) (hP : a.P k = some (st, w)) (d : Bool) : VStep n wl a { a with P := up a.P k (if keep = true then some (.S, w) else none), h := up a.h k (some (.returned (some w) d)) }
  | recallL {k : Nat} {w : Option Nat} {keep d : Bool} (hh : a.h k = some (.recall keep)) (hP : a.P k = none) (hL : a.L k = some (w, d)) : VStep n wl a { a with L := up a.L k (some (none, d)), h := up a.h k (some (.returned w d)) }
  | inval {k : Nat} (hh : a.h k = some .inval) : VStep n wl a { a with P := up a.P k none, h := up a.h k (some .invald) }
  | grant {k w : Nat} {st : S3} (hh : a.h k = some (.grant st w)) : VStep n wl a { a with P := up a.P k (some (st, w)), R := up a.R k none, h := up a.h k (some .received) }
  | received {k : Nat} (hh : a.h k = some .received) : VStep n wl a { a with sv := none, h := up a.h k none }
  | reqOwned {k o : Nat} {e : Bool} (hs : a.sv = none) (hq : a.q k = some (getK e)) (ho : a.ow = some o) : VStep n wl a { a with sv := some ⟨k, e, [], true, none, false⟩, q := up a.q k none, h := up a.h o (some (.recall (!e))) }
  | reqM {k : Nat} {w0 : Option Nat} (hs : a.sv = none) (hq : a.q k = some (getK true)) (ho : a.ow = none) (hsh : ∀ j, j ∈ a.sh → j = k) : VStep n wl a { a with ow := some k, sh := [], sv := some ⟨k, true, [], false, w0, true⟩, q := up a.q k none, h := up a.h k (some (.grant .M wl)) }
  | reqE {k : Nat} {w0 : Option Nat} (hs : a.sv = none) (hq : a.q k = some (getK false)) (ho : a.ow = none) (hsh : a.sh = []) : VStep n wl a { a with ow := some k, sv := some ⟨k, false, [], false, w0, true⟩, q := up a.q k none, h := up a.h k (some (.grant .E wl)) }
  | reqS {k : Nat} {sh : List Nat} {w0 : Option Nat} (hs : a.sv = none) (hq : a.q k = some (getK false)) (ho : a.ow = none) (hn : sh.Nodup) (hsub : ∀ j, j ∈ sh ↔ (j ∈ a.sh ∨ j = k)) : VStep n wl a { a with sh := sh, sv := some ⟨k, false, [], false, w0, true⟩, q := up a.q k none, h := up a.h k (some (.grant .S wl)) }
  | reqW {k : Nat} {aw : List Nat} (hs : a.sv = none) (hq : a.q k = some (getK true)) (ho : a.ow = none) (hn : aw.Nodup) (hne : aw ≠ []) (hsub : ∀ j, j ∈ aw ↔ (j ∈ a.sh ∧ j ≠ k)) : VStep n wl a { a with sv := some ⟨k, true, aw, false, some wl, false⟩, q := up a.q k none, h := fun j => if j ∈ aw then some .inval else none }
  | retM {k : Nat} {w : Option Nat} {d : Bool} {s : Serv} {w0 : Option Nat} (hs : a.sv = some s) (hh : a.h k = some (.returned w d)) (hx : s.ex = true) : VStep n wl a { a with ow := some s.c, sh := [], sv := some ⟨s.c, s.ex, s.wait, false, w0, true⟩, h := up (up a.h k none) s.c (some (.grant .M wl)) }
  | retS {k : Nat} {w : Option Nat} {d : Bool} {s : Serv} {w0 : Option Nat} (hs : a.sv = some s) (hh : a.h k = some (.returned w d)) (hx : s.ex = false) : VStep n wl a { a with ow := none, sh := [k, s.c], sv := some ⟨s.c, s.ex, s.wait, false, w0, true⟩, h := up (up a.h k none) s.c (some (.grant .S wl)) }
  | invW {k : Nat} {s : Serv} {aw sh : List Nat} (hs : a.sv = some s) (hh : a.h k = some .invald) (hn : aw.Nodup) (hn2 : sh.Nodup) (hne : aw ≠ []) (haw : ∀ j, j ∈ aw ↔ (j ∈ s.wait ∧ j ≠ k)) (hsh : ∀ j, j ∈ sh ↔ (j ∈ a.sh ∧ j ≠ k)) : VStep n wl a { a with sh := sh, sv := some ⟨s.c, s.ex, aw, s.rcl, s.w, s.gr⟩, h := up a.h k none }
  | invM {k : Nat} {s : Serv} {w0 : Option Nat} (hs : a.sv = some s) (hh : a.h k = some .invald) (haw : ∀ j, j ∈ s.wait → j = k) : VStep n wl a { a with ow := some s.c, sh := [], sv := some ⟨s.c, s.ex, [], s.rcl, w0, true⟩, h := up (up a.h k none) s.c (some (.grant .M wl)) }
theorem VStep.inv {n wl : Nat} {a b : LV} (h : VStep n wl a b) (I : LInv n wl a) : LInv n wl b := by
  cases h with
  | giveUp hs hv => exact t_giveUp I hs hv
  | confirm hv => exact t_confirm I hv
  | recallP hh hP d => exact t_recallP I hh hP d
  | recallL hh hP hL => exact t_recallL I hh hP hL
  | inval hh => exact t_inval I hh
  | grant hh => exact t_grant I hh
  | received hh => exact t_received I hh
  | reqOwned hs hq ho => exact t_reqOwned I hs hq ho
  | reqM hs hq ho hsh => exact t_reqM I hs hq rfl ho hsh
  | reqE hs hq ho hsh => exact t_reqE I hs hq rfl ho hsh
  | reqS hs hq ho hn hsub => exact t_reqS I hs hq rfl ho hn hsub
  | reqW hs hq ho hn hne hsub => exact t_reqW I hs hq rfl ho hn hne hsub
  | retM hs hh hx => exact t_retM I hs hh hx
  | retS hs hh hx => exact t_retS I hs hh hx
  | invW hs hh hn hn2 hne haw hsh => exact t_invW I hs hh hn hn2 hne haw hsh
  | invM hs hh haw => exact t_invM I hs hh haw
/-! ### one core wants one line -/
/-- what holds of the line while its one request is under way, and behind it -/
def Want (k : Nat) (e : Bool) (a : LV) : Prop :=
  (a.R k = some e ∧ ∀ j, j ≠ k → a.q j = none) ∨
  (a.R k = none ∧ (∀ j, a.q j = none) ∧ (∀ s, a.sv = some s → s.gr = true) ∧ ∃ st w, a.P k = some (st, w) ∧ (e = true → st ≠ .S))
theorem VStep.want {n wl : Nat} {a b : LV} (h : VStep n wl a b) (I : LInv n wl a) {k : Nat} {e : Bool} (w : Want k e a) : Want k e b := by
  have J := I
  cases h with
  | giveUp hs hv => unfold Want at *; grind [up]
  | confirm hv => unfold Want at *; grind [up]
  | recallP hh hP d => obtain ⟨s0, e1, e2, e3, e4, e5, e6, e7, e8⟩ := J.at_recall hh; unfold Want at *; grind [up]
  | recallL hh hP hL => obtain ⟨s0, e1, e2, e3, e4, e5, e6, e7, e8⟩ := J.at_recall hh; unfold Want at *; grind [up]
  | inval hh => obtain ⟨s0, e1, e2, e3, e4, e5, e6, e7⟩ := J.at_inval (.inl hh); unfold Want at *; grind [up]
  | @grant j w' st hh =>
    obtain ⟨s0, e1, e2, e3, e4, e5⟩ := J.at_grant hh
    have r7 := J.r7 k
    unfold Want at *
    by_cases hj : j = k
    · subst hj
      rcases w with ⟨w1, w2⟩ | ⟨w1, _⟩
      · refine .inr ⟨by simp [up], fun x => ?_, fun s hs => ?_, st, w', by simp [up], fun he => ?_⟩
        · by_cases hx : x = j
          · subst hx; exact e5
          · exact w2 x hx
        · have hs : a.sv = some s := hs
          rw [e1] at hs; cases hs; exact e2
        · subst he; rw [r7 st w' w1 hh]; decide
      · exact absurd w1 e4
    · grind [up]
  | received hh => unfold Want at *; grind [up]
  | reqOwned hs hq ho => have hR := J.r5; have hR1 := J.r1; unfold Want at *; grind [up, getK]
  | reqM hs hq ho hsh => have hR := J.r5; have hR1 := J.r1; unfold Want at *; grind [up, getK]
  | reqE hs hq ho hsh => have hR := J.r5; have hR1 := J.r1; unfold Want at *; grind [up, getK]
  | reqS hs hq ho hn hsub => have hR := J.r5; have hR1 := J.r1; unfold Want at *; grind [up, getK]
  | reqW hs hq ho hn hne hsub => have hR := J.r5; have hR1 := J.r1; unfold Want at *; grind [up, getK]
  | retM hs hh hx => obtain ⟨s0, e1, e2, e3, e4, e5, e6, e7⟩ := J.at_returned hh; unfold Want at *; grind [up]
  | retS hs hh hx => obtain ⟨s0, e1, e2, e3, e4, e5, e6, e7⟩ := J.at_returned hh; unfold Want at *; grind [up]
  | invW hs hh hn hn2 hne haw hsh => obtain ⟨s0, e1, e2, e3, e4, e5, e6, e7⟩ := J.at_inval (.inr hh); unfold Want at *; grind [up]
  | invM hs hh haw => obtain ⟨s0, e1, e2, e3, e4, e5, e6, e7⟩ := J.at_inval (.inr hh); unfold Want at *; grind [up]
/-- a line that is neither present nor requested stays so -/
def Gone (k : Nat) (a : LV) : Prop := a.P k = none ∧ a.R k = none
theorem VStep.gone {n wl : Nat} {a b : LV} (h : VStep n wl a b) (I : LInv n wl a) {k : Nat} (w : Gone k a) : Gone k b := by
  have J := I
  unfold Gone at *
  cases h <;> first
    | exact w
    | skip
  case recallP hh hP d => grind [up]
  case inval hh => grind [up]
  case grant hh => obtain ⟨s0, e1, e2, e3, e4, e5⟩ := J.at_grant hh; grind [up]
end LK
set_option maxHeartbeats 1000000
/-! One delivery. -/
namespace LK
def wt (W : Nat) : MK → Nat
  | .getS | .getM => W
  | .giveUp _ _ => 2
  | .confirm => 1
  | .recall _ => 2
  | .returned _ _ => 1
  | .inval => 2
  | .invald => 1
  | .grant _ _ => 2
  | .received => 1
def hp (F : Nat → Nat) (h : Home) : Nat :=
  match h.sv with
  | none => F h.sh.length
  | some s => if s.gr = true then F h.sh.length else 2
def pot (W : Nat) (F : Nat → Nat) (s : Sys) : Nat := (s.net.map (fun m => wt W m.k)).sum + (s.homes.map (hp F)).sum
structure PotOk (W : Nat) (F : Nat → Nat) (n : Nat) : Prop where
  f2 : ∀ x, x ≤ 2 → F x = 0
  f1 : ∀ x, F x + 3 ≤ W
  o5 : 2 ≤ n → 5 ≤ W
  aw : ∀ x y, y ≤ x → y + 1 ≤ n → 3 + 2 * y ≤ W + F x
structure KeysOk (many : Nat) (c : Cache) : Prop where
  n1 : (c.lines.map (·.1)).Nodup
  n2 : (c.req.map (·.1)).Nodup
  n3 : (c.leav.map (·.1)).Nodup
  l1 : ∀ l, l ∈ c.lines.map (·.1) → l < many
  l2 : ∀ l, l ∈ c.req.map (·.1) → l < many
  l3 : ∀ l, l ∈ c.leav.map (·.1) → l < many
structure Inv (n size : Nat) (g : Cfg) (s : Sys) : Prop where
  nc : s.caches.length = n
  nh : s.homes.length = (size + g.lw - 1) / g.lw
  mem : s.mem = size
  keys : ∀ k, KeysOk s.homes.length (cacheAt s k)
  oc : ∀ k x, occ g (cacheAt s k) x ≤ g.ways
  ms : ∀ m, m ∈ s.net → m.c < n ∧ m.l < s.homes.length
  vw : ∀ l, ∃ a, IsView s l a ∧ LInv n (wordsAt g size l) a
structure SStep (n size : Nat) (g : Cfg) (s s' : Sys) (l : Nat) : Prop where
  nc : s'.caches.length = s.caches.length
  nh : s'.homes.length = s.homes.length
  mem : s'.mem = s.mem
  keys : ∀ k, KeysOk s.homes.length (cacheAt s' k)
  oc : ∀ k x, occ g (cacheAt s' k) x ≤ occ g (cacheAt s k) x
  ms : ∀ m, m ∈ s'.net → m.c < n ∧ m.l < s.homes.length
  other : ∀ l' a, l' ≠ l → IsView s l' a → IsView s' l' a
  this : ∃ a b, IsView s l a ∧ LInv n (wordsAt g size l) a ∧ IsView s' l b ∧ VStep n (wordsAt g size l) a b
  pot : ∀ W F, PotOk W F n → pot W F s' + 1 ≤ pot W F s
theorem cacheAt_set {s : Sys} {k : Nat} {c' : Cache} {hs : List Home} {mem : Nat} {net : List Msg} (hk : k < s.caches.length) (j : Nat) : cacheAt ⟨s.caches.set k c', hs, mem, net⟩ j = if j = k then c' else cacheAt s j := by
  unfold cacheAt
  simp only [List.getD_eq_getElem?_getD, List.getElem?_set]
  by_cases h : j = k
  · subst h; simp [hk]
  · simp [h, Ne.symm h]
theorem homeAt_set {s : Sys} {l : Nat} {h' : Home} {cs : List Cache} {mem : Nat} {net : List Msg} (hl : l < s.homes.length) (j : Nat) : homeAt ⟨cs, s.homes.set l h', mem, net⟩ j = if j = l then h' else homeAt s j := by
  unfold homeAt
  simp only [List.getD_eq_getElem?_getD, List.getElem?_set]
  by_cases h : j = l
  · subst h; simp [hl]
  · simp [h, Ne.symm h]
theorem part_other {ms : List Msg} {l l' : Nat} (h : ∀ x, x ∈ ms → x.l = l) (hl : l' ≠ l) (k c : Nat) : part ms k l' c = [] := by
  unfold part
  rw [List.map_eq_nil_iff, List.filter_eq_nil_iff]
  intro x hx
  have := h x hx
  unfold hit
  simp [this, Ne.symm hl]
theorem hit_other {m : Msg} {l' : Nat} (hl : l' ≠ m.l) (k c : Nat) : hit k l' c m = false := by
  unfold hit; simp [Ne.symm hl]
theorem up_self {β : Type} (f : Nat → β) (k : Nat) : up f k (f k) = f := by
  funext j; unfold up; by_cases h : j = k <;> simp [h]
section
variable {s : Sys} {i : Nat} {m : Msg} {a b : LV} {ms : List Msg}
/-- another line behind a delivery -/
theorem view_other {l' : Nat} {s' : Sys} (hi : s.net[i]? = some m) (hl : l' ≠ m.l) (hms : ∀ x, x ∈ ms → x.l = m.l) (V : IsView s l' a)
    (hn : s'.net = s.net.take i ++ s.net.drop (i + 1) ++ ms) (h0 : homeAt s' l' = homeAt s l') (h1 : ∀ k, get (cacheAt s' k).lines l' = get (cacheAt s k).lines l') (h2 : ∀ k, get (cacheAt s' k).req l' = get (cacheAt s k).req l') (h3 : ∀ k, get (cacheAt s' k).leav l' = get (cacheAt s k).leav l') : IsView s' l' a := by
  have hp : ∀ k c, part s'.net k l' c = part s.net k l' c := fun k c => by
    rw [hn, part_append, part_other hms hl, List.append_nil, part_miss hi (hit_other hl k c)]
  exact ⟨h0.trans V.hm, fun k => (h1 k).trans (V.P k), fun k => (h2 k).trans (V.R k), fun k => (h3 k).trans (V.L k), fun k => (hp k 0).trans (V.q k), fun k => (hp k 1).trans (V.v k), fun k => (hp k 2).trans (V.h k)⟩
/-- the parts of the delivered message's own line -/
theorem hit_self (m : Msg) (k c : Nat) : hit k m.l c m = (m.c == k && m.k.cls == c) := by
  unfold hit; simp
theorem part_this (hi : s.net[i]? = some m) {o : Nat → Option MK} {c : Nat} (hc : m.k.cls = c) (V : ∀ k, part s.net k m.l c = (o k).toList) :
    o m.c = some m.k ∧ ∀ k, part (s.net.take i ++ s.net.drop (i + 1)) k m.l c = (up o m.c none k).toList := by
  refine ⟨(part_hit hi (by rw [hit_self]; simp [hc]) (V m.c)).1, fun k => ?_⟩
  by_cases hk : k = m.c
  · subst hk; rw [up_same]; exact (part_hit hi (by rw [hit_self]; simp [hc]) (V m.c)).2
  · rw [up_ne hk, ← V k]; exact part_miss hi (by rw [hit_self]; simp [Ne.symm hk])
theorem part_thisNe (hi : s.net[i]? = some m) {o : Nat → Option MK} {c : Nat} (hc : m.k.cls ≠ c) (V : ∀ k, part s.net k m.l c = (o k).toList) :
    ∀ k, part (s.net.take i ++ s.net.drop (i + 1)) k m.l c = (o k).toList := fun k => by
  rw [← V k]; exact part_miss hi (by rw [hit_self]; simp [hc])
/-- one new message behind what is left of a class -/
theorem part_add {net : List Msg} {l c k' : Nat} {mk : MK} {o : Nat → Option MK} (V : ∀ k, part net k l c = (o k).toList) (hc : mk.cls = c) (h0 : o k' = none) : ∀ k, part (net ++ [⟨k', l, mk⟩]) k l c = (up o k' (some mk) k).toList := fun k => by
  rw [part_append, V k, part_one]
  unfold hit
  by_cases hk : k = k'
  · subst hk; rw [up_same, h0]; simp [hc]
  · rw [up_ne hk]; simp [Ne.symm hk]
theorem part_addNe {net : List Msg} {l c k' : Nat} {mk : MK} {o : Nat → Option MK} (V : ∀ k, part net k l c = (o k).toList) (hc : mk.cls ≠ c) : ∀ k, part (net ++ [⟨k', l, mk⟩]) k l c = (o k).toList := fun k => by
  rw [part_append, V k, part_one]
  unfold hit
  simp [hc]
theorem up_up {β : Type} (f : Nat → β) (k : Nat) (x y : β) : up (up f k x) k y = up f k y := by
  funext j; unfold up; by_cases h : j = k <;> simp [h]
end
end LK
set_option maxHeartbeats 1000000
/-! One delivery to a cache. -/
namespace LK
section
variable {n size : Nat} {g : Cfg} {s : Sys} {i : Nat} {m : Msg}
theorem caches_at (I : Inv n size g s) (hi : s.net[i]? = some m) : m.c < s.caches.length ∧ m.l < s.homes.length ∧ s.caches[m.c]? = some (cacheAt s m.c) ∧ s.homes[m.l]? = some (homeAt s m.l) := by
  have h := I.ms m (List.mem_of_getElem? hi)
  have h1 : m.c < s.caches.length := by rw [I.nc]; exact h.1
  refine ⟨h1, h.2, ?_, ?_⟩
  · unfold cacheAt; simp [List.getD_eq_getElem?_getD, h1]
  · unfold homeAt; simp [List.getD_eq_getElem?_getD, h.2]
theorem sstep_cache (I : Inv n size g s) (hi : s.net[i]? = some m) (c' : Cache) (ms : List Msg) (hms : ∀ x, x ∈ ms → x.c = m.c ∧ x.l = m.l)
    (hg : ∀ l', l' ≠ m.l → get c'.lines l' = get (cacheAt s m.c).lines l' ∧ get c'.req l' = get (cacheAt s m.c).req l' ∧ get c'.leav l' = get (cacheAt s m.c).leav l')
    (hkeys : KeysOk s.homes.length c') (hocc : ∀ x, occ g c' x ≤ occ g (cacheAt s m.c) x) (hw : ∀ W, (ms.map (fun x => wt W x.k)).sum + 1 ≤ wt W m.k)
    (hv : ∀ a, IsView s m.l a → LInv n (wordsAt g size m.l) a → ∃ b, IsView ⟨s.caches.set m.c c', s.homes, s.mem, s.net.take i ++ s.net.drop (i + 1) ++ ms⟩ m.l b ∧ VStep n (wordsAt g size m.l) a b) :
    SStep n size g s ⟨s.caches.set m.c c', s.homes, s.mem, s.net.take i ++ s.net.drop (i + 1) ++ ms⟩ m.l := by
  obtain ⟨h1, h2, h3, h4⟩ := caches_at I hi
  refine ⟨by simp, rfl, rfl, fun k => ?_, fun k x => ?_, fun x hx => ?_, fun l' a hl V => ?_, ?_, fun W F _ => ?_⟩
  · rw [cacheAt_set h1]
    by_cases hk : k = m.c
    · rw [if_pos hk]; exact hkeys
    · rw [if_neg hk]; exact I.keys k
  · rw [cacheAt_set h1]
    by_cases hk : k = m.c
    · subst hk; rw [if_pos rfl]; exact hocc x
    · rw [if_neg hk]; exact Nat.le_refl _
  · rcases List.mem_append.mp hx with hx | hx
    · exact I.ms x (mem_rest hx)
    · rw [(hms x hx).1, (hms x hx).2]; exact I.ms m (List.mem_of_getElem? hi)
  · refine view_other hi hl (fun x hx => (hms x hx).2) V rfl rfl (fun k => ?_) (fun k => ?_) (fun k => ?_)
    all_goals
      rw [cacheAt_set h1]
      by_cases hk : k = m.c
      · subst hk; rw [if_pos rfl]
        first | exact (hg l' hl).1 | exact (hg l' hl).2.1 | exact (hg l' hl).2.2
      · rw [if_neg hk]
  · obtain ⟨a, V, A⟩ := I.vw m.l
    obtain ⟨b, V', B⟩ := hv a V A
    exact ⟨a, b, V, A, V', B⟩
  · unfold pot
    show (List.map (fun m => wt W m.k) (s.net.take i ++ s.net.drop (i + 1) ++ ms)).sum + (s.homes.map (hp F)).sum + 1 ≤ _
    rw [sum_rest (fun m => wt W m.k) hi, List.map_append, List.sum_append_nat]
    have := hw W
    omega
/-- the view behind it: the three kinds of entries, the messages -/
theorem view_cache {a : LV} {c' : Cache} {ms : List Msg} {p : Option (S3 × Nat)} {r : Option Bool} {x : Option (Option Nat × Bool)} {v' h' : Nat → Option MK} (I : Inv n size g s) (hi : s.net[i]? = some m) (V : IsView s m.l a)
    (hp : get c'.lines m.l = p) (hr : get c'.req m.l = r) (hx : get c'.leav m.l = x)
    (h0 : ∀ k, part (s.net.take i ++ s.net.drop (i + 1) ++ ms) k m.l 0 = (a.q k).toList)
    (h1 : ∀ k, part (s.net.take i ++ s.net.drop (i + 1) ++ ms) k m.l 1 = (v' k).toList)
    (h2 : ∀ k, part (s.net.take i ++ s.net.drop (i + 1) ++ ms) k m.l 2 = (h' k).toList) :
    IsView ⟨s.caches.set m.c c', s.homes, s.mem, s.net.take i ++ s.net.drop (i + 1) ++ ms⟩ m.l { a with P := up a.P m.c p, R := up a.R m.c r, L := up a.L m.c x, v := v', h := h' } := by
  obtain ⟨hc, _, _, _⟩ := caches_at I hi
  refine ⟨V.hm, fun k => ?_, fun k => ?_, fun k => ?_, h0, h1, h2⟩
  all_goals
    rw [cacheAt_set hc]
    by_cases hk : k = m.c
    · subst hk; rw [if_pos rfl]
      first | (rw [hp]; exact up_same.symm) | (rw [hr]; exact up_same.symm) | (rw [hx]; exact up_same.symm)
    · rw [if_neg hk]
      first | (rw [V.P]; exact (up_ne hk).symm) | (rw [V.R]; exact (up_ne hk).symm) | (rw [V.L]; exact (up_ne hk).symm)
theorem msgs_answer {a : LV} {mk : MK} (hi : s.net[i]? = some m) (hc : m.k.cls = 2) (hm : mk.cls = 2) (V : IsView s m.l a) :
    a.h m.c = some m.k ∧
    (∀ k, part (s.net.take i ++ s.net.drop (i + 1) ++ [⟨m.c, m.l, mk⟩]) k m.l 0 = (a.q k).toList) ∧
    (∀ k, part (s.net.take i ++ s.net.drop (i + 1) ++ [⟨m.c, m.l, mk⟩]) k m.l 1 = (a.v k).toList) ∧
    (∀ k, part (s.net.take i ++ s.net.drop (i + 1) ++ [⟨m.c, m.l, mk⟩]) k m.l 2 = (up a.h m.c (some mk) k).toList) := by
  obtain ⟨e, h2⟩ := part_this hi hc V.h
  refine ⟨e, part_addNe (part_thisNe hi (by rw [hc]; decide) V.q) (by rw [hm]; decide), part_addNe (part_thisNe hi (by rw [hc]; decide) V.v) (by rw [hm]; decide), fun k => ?_⟩
  rw [part_add h2 hm up_same k, up_up]
theorem occ_of {c c' : Cache} {x : Nat} (h : occK g (c'.lines.map (·.1)) (c'.req.map (·.1)) x ≤ occK g (c.lines.map (·.1)) (c.req.map (·.1)) x) : occ g c' x ≤ occ g c x := by
  rw [occ_eq, occ_eq]; exact h
theorem wo_map {β : Type} (es : List (Nat × β)) (l : Nat) : (wo es l).map (·.1) = (es.map (·.1)).filter (fun x => x != l) := by
  unfold wo; rw [List.filter_map]; rfl
theorem deliver_cache (I : Inv n size g s) (hi : s.net[i]? = some m) (hc : m.k.toCache = true) : ∃ r, cacheRecv (cacheAt s m.c) m = some r ∧
    SStep n size g s ⟨s.caches.set m.c r.1, s.homes, s.mem, s.net.take i ++ s.net.drop (i + 1) ++ r.2⟩ m.l := by
  obtain ⟨a, V, A⟩ := I.vw m.l
  have K := I.keys m.c
  obtain ⟨mc, ml, mk⟩ := m
  cases mk with
  | getS => cases hc
  | getM => cases hc
  | giveUp w d => cases hc
  | returned w d => cases hc
  | invald => cases hc
  | received => cases hc
  | confirm =>
    refine ⟨_, rfl, sstep_cache I hi _ _ (fun x hx => absurd hx (by simp)) (fun l' hl => ⟨rfl, rfl, ?_⟩) ⟨K.n1, K.n2, wo_keys _ _ K.n3, K.l1, K.l2, fun l hl => ?_⟩ (fun x => Nat.le_refl _) (fun W => by simp [wt]) (fun a V A => ?_)⟩
    · show get (wo _ ml) l' = _
      rw [get_wo, if_neg hl]
    · rw [wo_map, mem_drop_key] at hl; exact K.l3 l hl.1
    · obtain ⟨e, h1⟩ := part_this hi rfl V.v
      refine ⟨_, view_cache (p := a.P mc) (r := a.R mc) (x := none) (v' := up a.v mc none) (h' := a.h) I hi V (V.P mc) (V.R mc) ?_ ?_ ?_ ?_, ?_⟩
      · show get (wo _ ml) ml = _
        rw [get_wo, if_pos rfl]
      · rw [List.append_nil]; exact part_thisNe hi (by show (1 : Nat) ≠ 0; decide) V.q
      · rw [List.append_nil]; exact h1
      · rw [List.append_nil]; exact part_thisNe hi (by show (1 : Nat) ≠ 2; decide) V.h
      · show VStep _ _ _ { a with P := up a.P mc (a.P mc), R := up a.R mc (a.R mc), L := up a.L mc none, v := up a.v mc none, h := a.h }
        rw [up_self, up_self]
        exact .confirm e
  | inval =>
    refine ⟨_, rfl, sstep_cache I hi _ _ (fun x hx => by simp at hx; subst hx; exact ⟨rfl, rfl⟩) (fun l' hl => ⟨?_, rfl, rfl⟩) ⟨wo_keys _ _ K.n1, K.n2, K.n3, fun l hl => ?_, K.l2, K.l3⟩ (fun x => occ_of ?_) (fun W => by simp [wt]) (fun a V A => ?_)⟩
    · show get (wo _ ml) l' = _
      rw [get_wo, if_neg hl]
    · rw [wo_map, mem_drop_key] at hl; exact K.l1 l hl.1
    · rw [wo_map]; exact occK_drop g _ _ _ _ K.n2
    · obtain ⟨e, h0, h1, h2⟩ := msgs_answer (mk := .invald) hi rfl rfl V
      refine ⟨_, view_cache (p := none) (r := a.R mc) (x := a.L mc) I hi V ?_ (V.R mc) (V.L mc) h0 h1 h2, ?_⟩
      · show get (wo _ ml) ml = _
        rw [get_wo, if_pos rfl]
      · rw [up_self, up_self]
        exact .inval e
  | grant st w =>
    have hreq : ml ∈ (cacheAt s mc).req.map (·.1) := by
      obtain ⟨e, _⟩ := part_this hi rfl V.h
      obtain ⟨s0, _, _, _, e4, _⟩ := A.at_grant e
      rw [← get_key, V.R mc]; exact e4
    refine ⟨_, rfl, sstep_cache I hi _ _ (fun x hx => by simp at hx; subst hx; exact ⟨rfl, rfl⟩) (fun l' hl => ⟨?_, ?_, rfl⟩) ⟨app_keys (wo_keys _ _ K.n1) (wo_not_mem _ _), wo_keys _ _ K.n2, K.n3, fun l hl => ?_, fun l hl => ?_, K.l3⟩ (fun x => occ_of ?_) (fun W => by simp [wt]) (fun a V A => ?_)⟩
    · show get (wo _ ml ++ _) l' = _
      rw [get_app, get_wo, if_neg hl]
      cases get (cacheAt s mc).lines l' <;> simp [hl]
    · show get (wo _ ml) l' = _
      rw [get_wo, if_neg hl]
    · rw [List.map_append, wo_map, List.mem_append, mem_drop_key] at hl
      rcases hl with hl | hl
      · exact K.l1 l hl.1
      · simp at hl; subst hl; exact K.l2 _ hreq
    · rw [wo_map, mem_drop_key] at hl; exact K.l2 l hl.1
    · rw [List.map_append, wo_map, wo_map]; exact occK_grant g _ _ _ _ hreq
    · obtain ⟨e, h0, h1, h2⟩ := msgs_answer (mk := .received) hi rfl rfl V
      refine ⟨_, view_cache (p := some (st, w)) (r := none) (x := a.L mc) I hi V ?_ ?_ (V.L mc) h0 h1 h2, ?_⟩
      · show get (wo _ ml ++ _) ml = _
        rw [get_app, get_wo, if_pos rfl]; simp
      · show get (wo _ ml) ml = _
        rw [get_wo, if_pos rfl]
      · rw [up_self]
        exact .grant e
  | recall keep =>
    obtain ⟨e, _⟩ := part_this hi rfl V.h
    obtain ⟨s0, e1, e2, e3, e4, e5, e6, e7, e8⟩ := A.at_recall e
    have hox := A.ox mc e4
    have e : a.h mc = some (.recall keep) := e
    cases hP : get (cacheAt s mc).lines ml with
    | none =>
      have hP' : a.P mc = none := (V.P mc).symm.trans hP
      cases hL : get (cacheAt s mc).leav ml with
      | none =>
        have hL' : a.L mc = none := (V.L mc).symm.trans hL
        rw [hP', hL', e] at hox
        simp [hasW, isRet, isGr] at hox
      | some x =>
        obtain ⟨w, d⟩ := x
        refine ⟨_, by show afterRecall _ _ _ _ = _; unfold afterRecall; rw [hP, hL], sstep_cache I hi _ _ (fun x hx => by simp at hx; subst hx; exact ⟨rfl, rfl⟩) (fun l' hl => ⟨rfl, rfl, ?_⟩) ⟨K.n1, K.n2, by rw [we_keys]; exact K.n3, K.l1, K.l2, by rw [we_keys]; exact K.l3⟩ (fun x => Nat.le_refl _) (fun W => by simp [wt]) (fun a V A => ?_)⟩
        · show get (we _ ml _) l' = _
          rw [get_we, if_neg hl]
        · obtain ⟨e, h0, h1, h2⟩ := msgs_answer (mk := .returned w d) hi rfl rfl V
          refine ⟨_, view_cache (p := a.P mc) (r := a.R mc) (x := some (none, d)) I hi V (V.P mc) (V.R mc) ?_ h0 h1 h2, ?_⟩
          · show get (we _ ml _) ml = _
            rw [get_we, if_pos rfl, hL]; rfl
          · rw [up_self, up_self]
            exact .recallL e ((V.P mc).symm.trans hP) ((V.L mc).symm.trans hL)
    | some x =>
      obtain ⟨st, w⟩ := x
      refine ⟨_, by show afterRecall _ _ _ _ = _; unfold afterRecall; rw [hP], sstep_cache I hi _ _ (fun x hx => by simp at hx; subst hx; exact ⟨rfl, rfl⟩) (fun l' hl => ⟨?_, rfl, rfl⟩) ⟨?_, K.n2, K.n3, ?_, K.l2, K.l3⟩ (fun x => occ_of ?_) (fun W => by simp [wt]) (fun a V A => ?_)⟩
      · cases keep
        · show get (wo _ ml) l' = _
          rw [get_wo, if_neg hl]
        · show get (we _ ml _) l' = _
          rw [get_we, if_neg hl]
      · cases keep
        · exact wo_keys _ _ K.n1
        · show (List.map _ (we _ ml _)).Nodup
          rw [we_keys]; exact K.n1
      · cases keep
        · intro l hl
          have hl : l ∈ (wo _ ml).map (·.1) := hl
          rw [wo_map, mem_drop_key] at hl; exact K.l1 l hl.1
        · show ∀ l, l ∈ List.map _ (we _ ml _) → _
          rw [we_keys]; exact K.l1
      · cases keep
        · show occK g ((wo _ ml).map (·.1)) _ x ≤ _
          rw [wo_map]; exact occK_drop g _ _ _ _ K.n2
        · show occK g ((we _ ml _).map (·.1)) _ x ≤ _
          rw [we_keys]; exact Nat.le_refl _
      · obtain ⟨e, h0, h1, h2⟩ := msgs_answer (mk := .returned (some w) (st == .M)) hi rfl rfl V
        refine ⟨_, view_cache (p := if keep = true then some (.S, w) else none) (r := a.R mc) (x := a.L mc) I hi V ?_ (V.R mc) (V.L mc) h0 h1 h2, ?_⟩
        · cases keep
          · show get (wo _ ml) ml = _
            rw [get_wo, if_pos rfl]; rfl
          · show get (we _ ml _) ml = _
            rw [get_we, if_pos rfl, hP]; rfl
        · rw [up_self, up_self]
          exact .recallP e ((V.P mc).symm.trans hP) _
end
end LK
set_option maxHeartbeats 1000000
/-! One delivery to a home. -/
namespace LK
section
variable {n size : Nat} {g : Cfg} {s : Sys} {i : Nat} {m : Msg}
theorem mem_same (s : Sys) (a b w : Nat) (h : w = min b s.mem - min a s.mem) (hab : a ≤ b) : min a s.mem + w + (s.mem - min b s.mem) = s.mem := by omega
theorem sstep_home (I : Inv n size g s) (hi : s.net[i]? = some m) (h' : Home) (w' : Nat) (ms : List Msg) (hms : ∀ x, x ∈ ms → x.c < n ∧ x.l = m.l) (hw' : w' = wordsAt g s.mem m.l)
    (hw : ∀ W F, PotOk W F n → (ms.map (fun x => wt W x.k)).sum + hp F h' + 1 ≤ wt W m.k + hp F (homeAt s m.l))
    (b : LV) (hb : ∃ a, IsView s m.l a ∧ LInv n (wordsAt g size m.l) a ∧ VStep n (wordsAt g size m.l) a b ∧ b.P = a.P ∧ b.R = a.R ∧ b.L = a.L)
    (hh : h' = ⟨b.ow, b.sh, b.sv⟩)
    (h0 : ∀ k, part (s.net.take i ++ s.net.drop (i + 1) ++ ms) k m.l 0 = (b.q k).toList)
    (h1 : ∀ k, part (s.net.take i ++ s.net.drop (i + 1) ++ ms) k m.l 1 = (b.v k).toList)
    (h2 : ∀ k, part (s.net.take i ++ s.net.drop (i + 1) ++ ms) k m.l 2 = (b.h k).toList) :
    SStep n size g s ⟨s.caches, s.homes.set m.l h', min (m.l * g.lw) s.mem + w' + (s.mem - min (m.l * g.lw + g.lw) s.mem), s.net.take i ++ s.net.drop (i + 1) ++ ms⟩ m.l := by
  obtain ⟨c1, c2, c3, c4⟩ := caches_at I hi
  obtain ⟨a, V, A, S, bP, bR, bL⟩ := hb
  refine ⟨rfl, by simp, mem_same s _ _ _ hw' (Nat.le_add_right _ _), fun k => I.keys k, fun k x => Nat.le_refl _, fun x hx => ?_, fun l' a' hl V' => ?_, ⟨a, b, V, A, ?_, S⟩, fun W F hF => ?_⟩
  · rcases List.mem_append.mp hx with hx | hx
    · exact I.ms x (mem_rest hx)
    · rw [(hms x hx).2]; exact ⟨(hms x hx).1, (I.ms m (List.mem_of_getElem? hi)).2⟩
  · refine view_other hi hl (fun x hx => (hms x hx).2) V' rfl ?_ (fun k => rfl) (fun k => rfl) (fun k => rfl)
    rw [homeAt_set c2, if_neg hl]
  · refine ⟨?_, fun k => by rw [bP]; exact V.P k, fun k => by rw [bR]; exact V.R k, fun k => by rw [bL]; exact V.L k, h0, h1, h2⟩
    rw [homeAt_set c2, if_pos rfl, hh]
  · unfold pot
    show (List.map (fun m => wt W m.k) (s.net.take i ++ s.net.drop (i + 1) ++ ms)).sum + ((s.homes.set m.l h').map (hp F)).sum + 1 ≤ _
    rw [sum_rest (fun m => wt W m.k) hi, List.map_append, List.sum_append_nat]
    have e1 := hw W F hF
    have e2 := sum_set (hp F) (h' := h') c4
    omega
theorem part_invals {net : List Msg} {l : Nat} {aw : List Nat} {o : Nat → Option MK} {c : Nat} (V : ∀ k, part net k l c = (o k).toList) (hc : c ≠ 2) (hn : aw.Nodup) : ∀ k, part (net ++ aw.map (fun x => (⟨x, l, .inval⟩ : Msg))) k l c = (o k).toList := fun k => by
  rw [part_append, V k, part_inval hn]; simp [hc]
theorem getK_of {m : Msg} : m.k = .getS ∨ m.k = .getM → ∃ e, m.k = getK e := by
  rintro (h | h)
  · exact ⟨false, h⟩
  · exact ⟨true, h⟩
theorem hp_idle {F : Nat → Nat} {h : Home} (hs : h.sv = none) : hp F h = F h.sh.length := by unfold hp; rw [hs]
theorem hp_gr {F : Nat → Nat} {o : Option Nat} {sh : List Nat} {s : Serv} (hs : s.gr = true) : hp F ⟨o, sh, some s⟩ = F sh.length := by unfold hp; simp [hs]
theorem hp_un {F : Nat → Nat} {o : Option Nat} {sh : List Nat} {s : Serv} (hs : s.gr = false) : hp F ⟨o, sh, some s⟩ = 2 := by unfold hp; simp [hs]
theorem deliver_req (I : Inv n size g s) (hi : s.net[i]? = some m) {e : Bool} (hk : m.k = getK e) (hs : (homeAt s m.l).sv = none) :
    SStep n size g s ⟨s.caches, s.homes.set m.l (homeReq g (homeAt s m.l) (wordsAt g s.mem m.l) m.c m.l e).1, min (m.l * g.lw) s.mem + wordsAt g s.mem m.l + (s.mem - min (m.l * g.lw + g.lw) s.mem), s.net.take i ++ s.net.drop (i + 1) ++ (homeReq g (homeAt s m.l) (wordsAt g s.mem m.l) m.c m.l e).2⟩ m.l := by
  obtain ⟨a, V, A⟩ := I.vw m.l
  have hm := V.hm
  have hcls : m.k.cls = 0 := by rw [hk]; cases e <;> rfl
  obtain ⟨eq, q0⟩ := part_this hi hcls V.q
  have v0 := part_thisNe hi (c := 1) (by rw [hcls]; decide) V.v
  have h0 := part_thisNe hi (c := 2) (by rw [hcls]; decide) V.h
  have hmc := (I.ms m (List.mem_of_getElem? hi)).1
  have hwt : ∀ W, wt W m.k = W := fun W => by rw [hk]; cases e <;> rfl
  have hmem : s.mem = size := I.mem
  rw [hk] at eq
  have hs' : a.sv = none := by rw [hm] at hs; exact hs
  have hn0 : ∀ k, a.h k = none := fun k => A.p0 k hs'
  rw [hm]
  unfold homeReq
  cases ho : a.ow with
  | some o =>
    simp only
    have ho' := A.own o ho
    have hon : o ≠ m.c := by
      have B := t_reqOwned A hs' eq ho
      have := (B.p2 _ rfl rfl rfl).2.2
      intro q; subst q; exact this ho
    refine sstep_home I hi _ _ _ (fun x hx => by simp at hx; subst hx; exact ⟨ho'.1, rfl⟩) rfl (fun W F hF => ?_) _ ⟨a, V, A, .reqOwned hs' eq ho, rfl, rfl, rfl⟩ ?_ ?_ ?_ ?_
    · rw [hwt, hm, hp_un rfl, hp_idle hs']
      have h5 := hF.o5 (by omega)
      simp [wt]; omega
    · simp only [ho]
    · exact part_addNe q0 (by simp [MK.cls])
    · exact part_addNe v0 (by simp [MK.cls])
    · exact part_add h0 rfl (hn0 o)
  | none =>
    simp only
    cases e with
    | true =>
      simp only [if_true]
      unfold grantIf
      simp only [Bool.or_false, Bool.false_or]
      by_cases haw : a.sh.filter (fun x => x != m.c) = []
      · have hsub : ∀ j, j ∈ a.sh → j = m.c := fun j hj => by
          have := List.filter_eq_nil_iff.mp haw j hj
          simpa using this
        simp only [haw, List.isEmpty_nil, Bool.not_true, Bool.false_eq_true, if_false, if_true, List.map_nil, List.nil_append]
        refine sstep_home I hi _ _ _ (fun x hx => by simp at hx; subst hx; exact ⟨hmc, rfl⟩) rfl (fun W F hF => ?_) _ ⟨a, V, A, .reqM (w0 := some (wordsAt g s.mem m.l)) hs' eq ho hsub, rfl, rfl, rfl⟩ rfl ?_ ?_ ?_
        · rw [hwt, hm, hp_gr rfl, hp_idle hs']
          have h5 := hF.f1 0
          have h6 := hF.f2 0 (by omega)
          simp [wt]; omega
        · exact part_addNe q0 (by simp [MK.cls])
        · exact part_addNe v0 (by simp [MK.cls])
        · rw [hmem]; exact part_add h0 rfl (hn0 _)
      · have hne : (a.sh.filter (fun x => x != m.c)).isEmpty = false := by
          cases h : a.sh.filter (fun x => x != m.c) with
          | nil => exact absurd h haw
          | cons _ _ => rfl
        simp only [hne, Bool.not_false, if_true, List.append_nil]
        have hnd : (a.sh.filter (fun x => x != m.c)).Nodup := A.shn.sublist List.filter_sublist
        refine sstep_home I hi _ _ _ (fun x hx => ?_) rfl (fun W F hF => ?_) _ ⟨a, V, A, .reqW hs' eq ho hnd haw (fun j => mem_drop_key), rfl, rfl, rfl⟩ (by simp only [ho, hmem]) ?_ ?_ ?_
        · obtain ⟨y, hy, rfl⟩ := List.mem_map.mp hx
          rw [mem_drop_key] at hy
          exact ⟨A.shl y hy.1, rfl⟩
        · rw [hwt, hm, hp_un rfl, hp_idle hs']
          have hlen : (a.sh.filter (fun x => x != m.c)).length + 1 ≤ n := by
            have := nodup_lt n (m.c :: a.sh.filter (fun x => x != m.c)) (List.nodup_cons.mpr ⟨by simp, hnd⟩) (fun x hx => by
              rcases List.mem_cons.mp hx with hx | hx
              · subst hx; exact hmc
              · rw [mem_drop_key] at hx; exact A.shl x hx.1)
            simpa using this
          have hle : (a.sh.filter (fun x => x != m.c)).length ≤ a.sh.length := List.length_filter_le _ _
          have h5 := hF.aw a.sh.length _ hle hlen
          have h6 : ∀ aw : List Nat, ((aw.map (fun x => (⟨x, m.l, .inval⟩ : Msg))).map (fun x => wt W x.k)).sum = 2 * aw.length := by
            intro aw
            induction aw with
            | nil => rfl
            | cons x aw ih => simp only [List.map_cons, List.sum_cons, List.length_cons, ih]; simp [wt]; omega
          rw [h6]; show _ ≤ W + F a.sh.length; omega
        · exact part_invals q0 (by decide) hnd
        · exact part_invals v0 (by decide) hnd
        · intro k
          rw [part_append, h0 k, hn0 k, part_inval hnd]
          by_cases hkk : k ∈ a.sh.filter (fun x => x != m.c)
          · simp only [hkk, and_self, if_true]; rfl
          · simp only [hkk, false_and, if_false]; rfl
    | false =>
      simp only [Bool.false_eq_true, if_false, List.map_nil, List.nil_append]
      unfold grantIf
      simp only [List.isEmpty_nil, Bool.not_true, Bool.or_false, Bool.false_eq_true, if_false]
      by_cases hE : (g.alone && a.sh.isEmpty) = true
      · have hsh : a.sh = [] := by
          rw [Bool.and_eq_true] at hE
          exact List.isEmpty_iff.mp hE.2
        simp only [hE, if_true]
        refine sstep_home I hi _ _ _ (fun x hx => by simp at hx; subst hx; exact ⟨hmc, rfl⟩) rfl (fun W F hF => ?_) _ ⟨a, V, A, .reqE (w0 := some (wordsAt g s.mem m.l)) hs' eq ho hsh, rfl, rfl, rfl⟩ rfl ?_ ?_ ?_
        · rw [hwt, hm, hp_gr rfl, hp_idle hs']
          have h5 := hF.f1 a.sh.length
          simp [wt]; omega
        · exact part_addNe q0 (by simp [MK.cls])
        · exact part_addNe v0 (by simp [MK.cls])
        · rw [hmem]; exact part_add h0 rfl (hn0 _)
      · simp only [hE, Bool.false_eq_true, if_false]
        refine sstep_home I hi _ _ _ (fun x hx => by simp at hx; subst hx; exact ⟨hmc, rfl⟩) rfl (fun W F hF => ?_) _ ⟨a, V, A, .reqS (sh := if a.sh.contains m.c then a.sh else a.sh ++ [m.c]) (w0 := some (wordsAt g s.mem m.l)) hs' eq ho ?_ ?_, rfl, rfl, rfl⟩ (by simp only [ho]) ?_ ?_ ?_
        · rw [hwt, hm, hp_gr rfl, hp_idle hs']
          have h5 := hF.f1
          simp [wt]
          have := h5 (if m.c ∈ a.sh then a.sh else a.sh ++ [m.c]).length
          omega
        · by_cases hin : m.c ∈ a.sh
          · simp [hin, A.shn]
          · simp only [List.contains_eq_mem, hin, decide_false, Bool.false_eq_true, if_false]
            rw [List.nodup_append]
            refine ⟨A.shn, by simp, fun x hx y hy => ?_⟩
            simp at hy; subst hy; intro q; subst q; exact hin hx
        · intro j
          by_cases hin : m.c ∈ a.sh
          · simp only [List.contains_eq_mem, hin, decide_true, if_true]
            constructor
            · exact .inl
            · rintro (h | h)
              · exact h
              · subst h; exact hin
          · simp [hin]
        · exact part_addNe q0 (by simp [MK.cls])
        · exact part_addNe v0 (by simp [MK.cls])
        · rw [hmem]; exact part_add h0 rfl (hn0 _)
theorem deliver_giveUp (I : Inv n size g s) (hi : s.net[i]? = some m) {mw : Nat} {d : Bool} (hk : m.k = .giveUp mw d) (hs : (homeAt s m.l).sv = none) :
    ∃ r, homeRecv g (homeAt s m.l) (wordsAt g s.mem m.l) m = some r ∧
    SStep n size g s ⟨s.caches, s.homes.set m.l r.1, min (m.l * g.lw) s.mem + r.2.1 + (s.mem - min (m.l * g.lw + g.lw) s.mem), s.net.take i ++ s.net.drop (i + 1) ++ r.2.2⟩ m.l := by
  obtain ⟨a, V, A⟩ := I.vw m.l
  have hm := V.hm
  have hcls : m.k.cls = 1 := by rw [hk]; rfl
  obtain ⟨ev, v0⟩ := part_this hi hcls V.v
  have q0 := part_thisNe hi (c := 0) (by rw [hcls]; decide) V.q
  have h0 := part_thisNe hi (c := 2) (by rw [hcls]; decide) V.h
  have hmc := (I.ms m (List.mem_of_getElem? hi)).1
  have hs' : a.sv = none := by rw [hm] at hs; exact hs
  rw [hk] at ev
  have hw := A.vw m.c mw d ev
  have hmem : s.mem = size := I.mem
  unfold homeRecv
  rw [hk]
  refine ⟨_, rfl, ?_⟩
  refine sstep_home I hi _ _ _ (fun x hx => by simp at hx; subst hx; exact ⟨hmc, rfl⟩) ?_ (fun W F hF => ?_) _ ⟨a, V, A, .giveUp hs' ev, rfl, rfl, rfl⟩ ?_ ?_ ?_ ?_
  · rw [hw, hmem]; simp
  · rw [hk, hm, hp_idle rfl, hp_idle (h := ⟨a.ow, a.sh, a.sv⟩) hs']
    simp [wt]; omega
  · simp only [hm, hs']
  · exact part_addNe q0 (by simp [MK.cls])
  · intro k
    rw [part_add v0 (by rfl) up_same k, up_up]
  · exact part_addNe h0 (by simp [MK.cls])
theorem deliver_received (I : Inv n size g s) (hi : s.net[i]? = some m) (hk : m.k = .received) :
    ∃ r, homeRecv g (homeAt s m.l) (wordsAt g s.mem m.l) m = some r ∧
    SStep n size g s ⟨s.caches, s.homes.set m.l r.1, min (m.l * g.lw) s.mem + r.2.1 + (s.mem - min (m.l * g.lw + g.lw) s.mem), s.net.take i ++ s.net.drop (i + 1) ++ r.2.2⟩ m.l := by
  obtain ⟨a, V, A⟩ := I.vw m.l
  have hm := V.hm
  have hcls : m.k.cls = 2 := by rw [hk]; rfl
  obtain ⟨eh, h0⟩ := part_this hi hcls V.h
  have q0 := part_thisNe hi (c := 0) (by rw [hcls]; decide) V.q
  have v0 := part_thisNe hi (c := 1) (by rw [hcls]; decide) V.v
  rw [hk] at eh
  obtain ⟨s0, e1, e2, e3⟩ := A.at_received eh
  unfold homeRecv
  rw [hk]
  refine ⟨_, rfl, ?_⟩
  refine sstep_home I hi _ _ _ (fun x hx => absurd hx (by simp)) rfl (fun W F hF => ?_) _ ⟨a, V, A, .received eh, rfl, rfl, rfl⟩ ?_ ?_ ?_ ?_
  · rw [hk, hm, e1, hp_gr e2, hp_idle rfl]
    simp [wt]; omega
  · simp only [hm]
  · intro k; rw [List.append_nil]; exact q0 k
  · intro k; rw [List.append_nil]; exact v0 k
  · intro k; rw [List.append_nil]; exact h0 k
theorem deliver_returned (I : Inv n size g s) (hi : s.net[i]? = some m) {mw : Option Nat} {d : Bool} (hk : m.k = .returned mw d) :
    ∃ r, homeRecv g (homeAt s m.l) (wordsAt g s.mem m.l) m = some r ∧
    SStep n size g s ⟨s.caches, s.homes.set m.l r.1, min (m.l * g.lw) s.mem + r.2.1 + (s.mem - min (m.l * g.lw + g.lw) s.mem), s.net.take i ++ s.net.drop (i + 1) ++ r.2.2⟩ m.l := by
  obtain ⟨a, V, A⟩ := I.vw m.l
  have hm := V.hm
  have hcls : m.k.cls = 2 := by rw [hk]; rfl
  obtain ⟨eh, h0⟩ := part_this hi hcls V.h
  have q0 := part_thisNe hi (c := 0) (by rw [hcls]; decide) V.q
  have v0 := part_thisNe hi (c := 1) (by rw [hcls]; decide) V.v
  rw [hk] at eh
  obtain ⟨s0, e1, e2, e3, e4, e5, e6, e7⟩ := A.at_returned eh
  have hw := A.tw m.c mw d eh
  have hmem : s.mem = size := I.mem
  have hothers : ∀ j, j ≠ m.c → a.h j = none := fun j z => A.p2a s0 j e1 e2 e3 (by rw [e4]; intro q; exact z (Option.some.inj q).symm)
  have hR := A.r3 s0 e1 e2
  have hcn : s0.c < n := A.rn _ (by rw [hR.1]; simp)
  have hf : (up a.h m.c none) s0.c = none := by rw [up_ne (Ne.symm e6)]; exact hothers _ (Ne.symm e6)
  have hsv : (homeAt s m.l).sv = some s0 := by rw [hm]; exact e1
  unfold homeRecv
  rw [hk, hsv, hw]
  simp only
  refine ⟨_, rfl, ?_⟩
  unfold grantIf
  simp only [e2, e5, List.isEmpty_nil, Bool.not_true, Bool.or_false, Bool.false_eq_true, if_false]
  cases hx : s0.ex with
  | true =>
    simp only [if_true]
    refine sstep_home I hi _ _ _ (fun x hx => by simp at hx; subst hx; exact ⟨hcn, rfl⟩) ?_ (fun W F hF => ?_) _ ⟨a, V, A, .retM (w0 := some (wordsAt g size m.l)) e1 eh hx, rfl, rfl, rfl⟩ ?_ ?_ ?_ ?_
    · rw [hmem]; simp
    · rw [hk, hm, e1, hp_un e2, hp_gr rfl]
      have := hF.f2 0 (by omega)
      simp [wt]; omega
    · simp [hx, e5]
    · exact part_addNe q0 (by simp [MK.cls])
    · exact part_addNe v0 (by simp [MK.cls])
    · exact part_add h0 rfl hf
  | false =>
    have hnc : ([m.c] : List Nat).contains s0.c = false := by simp; exact Ne.symm e6
    simp only [Bool.false_eq_true, if_false, List.isEmpty_cons, Bool.and_false, hnc]
    refine sstep_home I hi _ _ _ (fun x hx => by simp at hx; subst hx; exact ⟨hcn, rfl⟩) ?_ (fun W F hF => ?_) _ ⟨a, V, A, .retS (w0 := some (wordsAt g size m.l)) e1 eh hx, rfl, rfl, rfl⟩ ?_ ?_ ?_ ?_
    · rw [hmem]; simp
    · rw [hk, hm, e1, hp_un e2, hp_gr rfl]
      have := hF.f2 2 (by omega)
      simp [wt]; omega
    · simp [hx, e5]
    · exact part_addNe q0 (by simp [MK.cls])
    · exact part_addNe v0 (by simp [MK.cls])
    · exact part_add h0 rfl hf
theorem deliver_invald (I : Inv n size g s) (hi : s.net[i]? = some m) (hk : m.k = .invald) :
    ∃ r, homeRecv g (homeAt s m.l) (wordsAt g s.mem m.l) m = some r ∧
    SStep n size g s ⟨s.caches, s.homes.set m.l r.1, min (m.l * g.lw) s.mem + r.2.1 + (s.mem - min (m.l * g.lw + g.lw) s.mem), s.net.take i ++ s.net.drop (i + 1) ++ r.2.2⟩ m.l := by
  obtain ⟨a, V, A⟩ := I.vw m.l
  have hm := V.hm
  have hcls : m.k.cls = 2 := by rw [hk]; rfl
  obtain ⟨eh, h0⟩ := part_this hi hcls V.h
  have q0 := part_thisNe hi (c := 0) (by rw [hcls]; decide) V.q
  have v0 := part_thisNe hi (c := 1) (by rw [hcls]; decide) V.v
  rw [hk] at eh
  obtain ⟨s0, e1, e2, e3, e4, e5, e6, e7⟩ := A.at_inval (.inr eh)
  have hmem : s.mem = size := I.mem
  have hR := A.r3 s0 e1 e2
  have hcn : s0.c < n := A.rn _ (by rw [hR.1]; simp)
  obtain ⟨f1, f2, f3, f4, f5⟩ := A.p3 s0 e1 e2 e3
  have hcw : s0.c ∉ s0.wait := fun q => (A.p3a s0 _ e1 e2 e3 q).2.1 rfl
  have hf : (up a.h m.c none) s0.c = none := by rw [up_ne (Ne.symm e6)]; exact A.p3b s0 _ e1 e2 e3 hcw
  have hsv : (homeAt s m.l).sv = some s0 := by rw [hm]; exact e1
  unfold homeRecv
  rw [hk, hsv]
  simp only
  refine ⟨_, rfl, ?_⟩
  unfold grantIf
  simp only [e2, e3, Bool.false_or, Bool.or_false]
  cases hw : s0.wait.filter (fun x => x != m.c) with
  | nil =>
    have haw : ∀ j, j ∈ s0.wait → j = m.c := fun j hj => by
      have := List.filter_eq_nil_iff.mp hw j hj
      simpa using this
    simp only [List.isEmpty_nil, Bool.not_true, Bool.false_eq_true, if_false, f3, f2, if_true]
    refine sstep_home I hi _ _ _ (fun x hx => by simp at hx; subst hx; exact ⟨hcn, rfl⟩) rfl (fun W F hF => ?_) _ ⟨a, V, A, .invM (w0 := some (wordsAt g size m.l)) e1 eh haw, rfl, rfl, rfl⟩ ?_ ?_ ?_ ?_
    · rw [hk, hm, e1, hp_un e2, hp_gr rfl]
      have := hF.f2 0 (by omega)
      simp [wt]; omega
    · simp [e3, f2]
    · exact part_addNe q0 (by simp [MK.cls])
    · exact part_addNe v0 (by simp [MK.cls])
    · exact part_add h0 rfl hf
  | cons y ys =>
    have hne : s0.wait.filter (fun x => x != m.c) ≠ [] := by rw [hw]; simp
    simp only [List.isEmpty_cons, Bool.not_false, if_true]
    rw [← hw]
    refine sstep_home I hi _ _ _ (fun x hx => absurd hx (by simp)) rfl (fun W F hF => ?_) _ ⟨a, V, A, .invW e1 eh (f5.sublist List.filter_sublist) (A.shn.sublist List.filter_sublist) hne (fun j => mem_drop_key) (fun j => mem_drop_key), rfl, rfl, rfl⟩ ?_ ?_ ?_ ?_
    · rw [hk, hm, e1, hp_un e2, hp_un rfl]
      simp [wt]
    · simp [hm, e2, e3]
    · intro k; rw [List.append_nil]; exact q0 k
    · intro k; rw [List.append_nil]; exact v0 k
    · intro k; rw [List.append_nil]; exact h0 k
end
end LK
set_option maxHeartbeats 1000000
/-! Runs: the start, actions, deliveries until nothing is in flight, a wanted line. -/
namespace LK
section
variable {n size : Nat} {g : Cfg} {s : Sys}
theorem deliver_ok (I : Inv n size g s) {i : Nat} {m : Msg} (hi : s.net[i]? = some m) (hc : s.can m = true) : ∃ s', delivered g s i = some s' ∧ SStep n size g s s' m.l := by
  obtain ⟨c1, c2, c3, c4⟩ := caches_at I hi
  unfold delivered
  rw [hi]
  simp only
  by_cases ht : m.k.toCache = true
  · obtain ⟨r, h1, h2⟩ := deliver_cache I hi ht
    rw [if_pos ht, c3]
    simp only [h1]
    exact ⟨_, rfl, h2⟩
  · rw [if_neg ht, c4]
    simp only
    have hcan : canRecv (homeAt s m.l) m.k = true := by
      unfold Sys.can at hc
      rw [c4] at hc
      simpa [ht] using hc
    have idle : m.k.waits = true → (homeAt s m.l).sv = none := fun hw => by
      unfold canRecv at hcan
      rw [hw] at hcan
      simpa using hcan
    have key : ∃ r, homeRecv g (homeAt s m.l) (wordsAt g s.mem m.l) m = some r ∧
        SStep n size g s ⟨s.caches, s.homes.set m.l r.1, min (m.l * g.lw) s.mem + r.2.1 + (s.mem - min (m.l * g.lw + g.lw) s.mem), s.net.take i ++ s.net.drop (i + 1) ++ r.2.2⟩ m.l := by
      cases hk : m.k with
      | getS =>
        have h := deliver_req I hi (e := false) hk (idle (by rw [hk]; rfl))
        unfold homeRecv; rw [hk]; exact ⟨_, rfl, h⟩
      | getM =>
        have h := deliver_req I hi (e := true) hk (idle (by rw [hk]; rfl))
        unfold homeRecv; rw [hk]; exact ⟨_, rfl, h⟩
      | giveUp w d => exact deliver_giveUp I hi hk (idle (by rw [hk]; rfl))
      | received => exact deliver_received I hi hk
      | returned w d => exact deliver_returned I hi hk
      | invald => exact deliver_invald I hi hk
      | confirm => rw [hk] at ht; exact absurd rfl ht
      | recall k => rw [hk] at ht; exact absurd rfl ht
      | inval => rw [hk] at ht; exact absurd rfl ht
      | grant a b => rw [hk] at ht; exact absurd rfl ht
    obtain ⟨r, h1, h2⟩ := key
    simp only [h1]
    exact ⟨_, rfl, h2⟩
theorem SStep.inv {s' : Sys} {l : Nat} (S : SStep n size g s s' l) (I : Inv n size g s) : Inv n size g s' := by
  refine ⟨S.nc.trans I.nc, S.nh.trans I.nh, S.mem.trans I.mem, fun k => by rw [S.nh]; exact S.keys k, fun k x => Nat.le_trans (S.oc k x) (I.oc k x), fun m hm => by rw [S.nh]; exact S.ms m hm, fun l' => ?_⟩
  by_cases h : l' = l
  · subst h
    obtain ⟨a, b, _, A, V, T⟩ := S.this
    exact ⟨b, V, T.inv A⟩
  · obtain ⟨a, V, A⟩ := I.vw l'
    exact ⟨a, S.other l' a h V, A⟩
theorem view_eq {l : Nat} {a b : LV} (V : IsView s l a) (V' : IsView s l b) : a = b := by
  have hm := V.hm.symm.trans V'.hm
  have tl : ∀ x y : Option MK, x.toList = y.toList → x = y := fun x y h => by cases x <;> cases y <;> simp_all
  obtain ⟨o1, s1, v1, P1, R1, L1, q1, w1, h1⟩ := a
  obtain ⟨o2, s2, v2, P2, R2, L2, q2, w2, h2⟩ := b
  simp only [Home.mk.injEq] at hm
  obtain ⟨rfl, rfl, rfl⟩ := hm
  have e1 : P1 = P2 := funext fun k => (V.P k).symm.trans (V'.P k)
  have e2 : R1 = R2 := funext fun k => (V.R k).symm.trans (V'.R k)
  have e3 : L1 = L2 := funext fun k => (V.L k).symm.trans (V'.L k)
  have e4 : q1 = q2 := funext fun k => tl _ _ ((V.q k).symm.trans (V'.q k))
  have e5 : w1 = w2 := funext fun k => tl _ _ ((V.v k).symm.trans (V'.v k))
  have e6 : h1 = h2 := funext fun k => tl _ _ ((V.h k).symm.trans (V'.h k))
  subst e1; subst e2; subst e3; subst e4; subst e5; subst e6
  rfl
/-- a word of one line's view that one step keeps -/
theorem SStep.keeps {s' : Sys} {l l0 : Nat} (S : SStep n size g s s' l) (I : Inv n size g s) (Pr : LV → Prop) (hP : ∀ a b, VStep n (wordsAt g size l0) a b → LInv n (wordsAt g size l0) a → Pr a → Pr b)
    (h : ∃ a, IsView s l0 a ∧ Pr a) : ∃ a, IsView s' l0 a ∧ Pr a := by
  obtain ⟨a, V, p⟩ := h
  by_cases e : l0 = l
  · subst e
    obtain ⟨a', b, V', A, W, T⟩ := S.this
    have := view_eq V V'
    subst this
    exact ⟨b, W, hP _ _ T A p⟩
  · exact ⟨a, S.other l0 a e V, p⟩
/-! ### nothing in flight -/
theorem mem_part {net : List Msg} {m : Msg} (h : m ∈ net) : m.k ∈ part net m.c m.l m.k.cls := by
  unfold part
  refine List.mem_map.mpr ⟨m, List.mem_filter.mpr ⟨h, ?_⟩, rfl⟩
  unfold hit; simp
/-- in a line whose home serves, an answer or a message to a cache is in flight -/
theorem serving_moves (I : Inv n size g s) {l : Nat} {a : LV} (V : IsView s l a) (A : LInv n (wordsAt g size l) a) {sv : Serv} (h : a.sv = some sv) : ∃ k x, a.h k = some x ∧ x.cls = 2 := by
  have cls : ∀ k x, a.h k = some x → x.cls = 2 := fun k x e => by
    have h2 := V.h k
    rw [e] at h2
    have : x ∈ part s.net k l 2 := by rw [h2]; simp
    unfold part at this
    obtain ⟨m, hm, rfl⟩ := List.mem_map.mp this
    have := (List.mem_filter.mp hm).2
    unfold hit at this
    simp at this
    exact this.2.2
  have key : ∃ k x, a.h k = some x := by
    cases hg : sv.gr with
    | true =>
      rcases A.p1b sv h hg with e | e
      · exact ⟨_, _, e⟩
      · cases e2 : a.h sv.c with
        | none => rw [e2] at e; cases e
        | some x => exact ⟨_, _, e2⟩
    | false =>
      cases hr : sv.rcl with
      | true =>
        obtain ⟨_, h2, _⟩ := A.p2 sv h hg hr
        cases ho : a.ow with
        | none => exact absurd ho h2
        | some o =>
          rcases A.p2b sv o h hg hr ho with e | e
          · exact ⟨_, _, e⟩
          · cases e2 : a.h o with
            | none => rw [e2] at e; cases e
            | some x => exact ⟨_, _, e2⟩
      | false =>
        obtain ⟨_, _, _, h4, _⟩ := A.p3 sv h hg hr
        cases hw : sv.wait with
        | nil => exact absurd hw h4
        | cons y ys =>
          rcases (A.p3a sv y h hg hr (by rw [hw]; simp)).2.2 with e | e
          · exact ⟨_, _, e⟩
          · exact ⟨_, _, e⟩
  obtain ⟨k, x, e⟩ := key
  exact ⟨k, x, e, cls k x e⟩
theorem quiet_line (I : Inv n size g s) (hn : s.net = []) {l : Nat} {a : LV} (V : IsView s l a) : a.sv = none ∧ (∀ k, a.q k = none) ∧ (∀ k, a.v k = none) ∧ (∀ k, a.h k = none) := by
  have e0 : ∀ (k c : Nat), part s.net k l c = [] := fun k c => by rw [hn]; rfl
  have h0 : ∀ o : Option MK, o.toList = [] → o = none := fun o h => by cases o <;> simp_all
  have hh : ∀ k, a.h k = none := fun k => h0 _ ((V.h k).symm.trans (e0 k 2))
  refine ⟨?_, fun k => h0 _ ((V.q k).symm.trans (e0 k 0)), fun k => h0 _ ((V.v k).symm.trans (e0 k 1)), hh⟩
  cases h : a.sv with
  | none => rfl
  | some sv =>
    obtain ⟨b, V', A⟩ := I.vw l
    have := view_eq V V'
    subst this
    obtain ⟨k, x, e, _⟩ := serving_moves I V A h
    rw [hh k] at e; cases e
/-- something in flight: something can be delivered -/
theorem progress (I : Inv n size g s) (hn : s.net ≠ []) : ∃ m, m ∈ s.net ∧ s.can m = true := by
  cases h : s.net with
  | nil => exact absurd h hn
  | cons m r =>
    have hm : m ∈ s.net := by rw [h]; simp
    obtain ⟨i, hi⟩ := List.mem_iff_getElem?.mp hm
    obtain ⟨c1, c2, c3, c4⟩ := caches_at I hi
    have canOf : ∀ x : Msg, x ∈ s.net → x.k.waits = false → s.can x = true := fun x hx hw => by
      obtain ⟨j, hj⟩ := List.mem_iff_getElem?.mp hx
      obtain ⟨_, _, _, d4⟩ := caches_at I hj
      unfold Sys.can
      rw [d4]
      simp [canRecv, hw]
    by_cases hw : m.k.waits = true
    · cases hs : (homeAt s m.l).sv with
      | none =>
        refine ⟨m, by simp, ?_⟩
        unfold Sys.can
        rw [c4]
        simp [canRecv, hs]
      | some sv =>
        obtain ⟨a, V, A⟩ := I.vw m.l
        have hsv : a.sv = some sv := by rw [V.hm] at hs; exact hs
        obtain ⟨k, x, e, hx⟩ := serving_moves I V A hsv
        have h2 := V.h k
        rw [e] at h2
        have : x ∈ part s.net k m.l 2 := by rw [h2]; simp
        unfold part at this
        obtain ⟨y, hy, rfl⟩ := List.mem_map.mp this
        have hy' := (List.mem_filter.mp hy).1
        refine ⟨y, h ▸ hy', canOf y hy' ?_⟩
        cases hk : y.k <;> rw [hk] at hx <;> first | rfl | cases hx
    · exact ⟨m, by simp, canOf m hm (by simpa using hw)⟩
theorem mem_delivIdx {i : Nat} : i ∈ delivIdx s ↔ ∃ m, s.net[i]? = some m ∧ s.can m = true := by
  unfold delivIdx
  rw [List.mem_filter, List.mem_range]
  constructor
  · rintro ⟨h, e⟩
    rw [List.getElem?_eq_getElem h] at e
    exact ⟨_, List.getElem?_eq_getElem h, e⟩
  · rintro ⟨m, h, e⟩
    obtain ⟨h1, _⟩ := List.getElem?_eq_some_iff.mp h
    refine ⟨h1, ?_⟩
    rw [h]; exact e
theorem quiet_of_idx (I : Inv n size g s) (h : delivIdx s = []) : s.net = [] := by
  refine Classical.byContradiction fun hn => ?_
  obtain ⟨m, hm, hc⟩ := progress I hn
  obtain ⟨i, hi⟩ := List.mem_iff_getElem?.mp hm
  have : i ∈ delivIdx s := mem_delivIdx.mpr ⟨m, hi, hc⟩
  rw [h] at this; cases this
theorem wt_pos {W : Nat} (hW : 1 ≤ W) (k : MK) : 1 ≤ wt W k := by cases k <;> simp [wt] <;> omega
theorem len_le_pot {W : Nat} {F : Nat → Nat} (hW : 1 ≤ W) : s.net.length ≤ pot W F s := by
  unfold pot
  have : ∀ net : List Msg, net.length ≤ (net.map (fun m => wt W m.k)).sum := by
    intro net
    induction net with
    | nil => simp
    | cons m net ih =>
      have := wt_pos hW m.k
      simp only [List.length_cons, List.map_cons, List.sum_cons]; omega
  have := this s.net
  omega
end
end LK
set_option maxHeartbeats 1000000
/-! Requests and giving up. -/
namespace LK
section
variable {n size : Nat} {g : Cfg} {s : Sys} {k l : Nat}
theorem cache_get {c : Cache} (h : s.caches[k]? = some c) : c = cacheAt s k ∧ k < s.caches.length := by
  obtain ⟨h1, h2⟩ := List.getElem?_eq_some_iff.mp h
  refine ⟨?_, h1⟩
  unfold cacheAt; simp [List.getD_eq_getElem?_getD, h]
theorem cache_some (h : k < s.caches.length) : s.caches[k]? = some (cacheAt s k) := by
  unfold cacheAt; simp [List.getD_eq_getElem?_getD, h]
/-- a changed cache and new messages, all of one line -/
theorem inv_act (I : Inv n size g s) (hk : k < s.caches.length) (hl : l < s.homes.length) (c' : Cache) (ms : List Msg) (hms : ∀ x, x ∈ ms → x.c = k ∧ x.l = l)
    (hg : ∀ l', l' ≠ l → get c'.lines l' = get (cacheAt s k).lines l' ∧ get c'.req l' = get (cacheAt s k).req l' ∧ get c'.leav l' = get (cacheAt s k).leav l')
    (hkeys : KeysOk s.homes.length c') (hocc : ∀ x, occ g c' x ≤ g.ways)
    (hv : ∀ a, IsView s l a → LInv n (wordsAt g size l) a → ∃ b, IsView ⟨s.caches.set k c', s.homes, s.mem, s.net ++ ms⟩ l b ∧ LInv n (wordsAt g size l) b) :
    Inv n size g ⟨s.caches.set k c', s.homes, s.mem, s.net ++ ms⟩ := by
  refine ⟨by simp [I.nc], I.nh, I.mem, fun j => ?_, fun j x => ?_, fun x hx => ?_, fun l' => ?_⟩
  · rw [cacheAt_set hk]
    by_cases hj : j = k
    · rw [if_pos hj]; exact hkeys
    · rw [if_neg hj]; exact I.keys j
  · rw [cacheAt_set hk]
    by_cases hj : j = k
    · rw [if_pos hj]; exact hocc x
    · rw [if_neg hj]; exact I.oc j x
  · rcases List.mem_append.mp hx with hx | hx
    · exact I.ms x hx
    · rw [(hms x hx).1, (hms x hx).2]; exact ⟨by rw [← I.nc]; exact hk, hl⟩
  · obtain ⟨a, V, A⟩ := I.vw l'
    by_cases h : l' = l
    · subst h; exact hv a V A
    · refine ⟨a, ⟨V.hm, fun j => ?_, fun j => ?_, fun j => ?_, fun j => ?_, fun j => ?_, fun j => ?_⟩, A⟩
      · rw [cacheAt_set hk]
        by_cases hj : j = k
        · subst hj; rw [if_pos rfl, (hg l' h).1]; exact V.P j
        · rw [if_neg hj]; exact V.P j
      · rw [cacheAt_set hk]
        by_cases hj : j = k
        · subst hj; rw [if_pos rfl, (hg l' h).2.1]; exact V.R j
        · rw [if_neg hj]; exact V.R j
      · rw [cacheAt_set hk]
        by_cases hj : j = k
        · subst hj; rw [if_pos rfl, (hg l' h).2.2]; exact V.L j
        · rw [if_neg hj]; exact V.L j
      · show part (s.net ++ ms) j l' 0 = _
        rw [part_append, part_other (fun x hx => (hms x hx).2) h, List.append_nil]; exact V.q j
      · show part (s.net ++ ms) j l' 1 = _
        rw [part_append, part_other (fun x hx => (hms x hx).2) h, List.append_nil]; exact V.v j
      · show part (s.net ++ ms) j l' 2 = _
        rw [part_append, part_other (fun x hx => (hms x hx).2) h, List.append_nil]; exact V.h j
theorem view_act {a : LV} {c' : Cache} {ms : List Msg} {p : Option (S3 × Nat)} {r : Option Bool} {x : Option (Option Nat × Bool)} {q' v' : Nat → Option MK} (hk : k < s.caches.length) (V : IsView s l a)
    (hp : get c'.lines l = p) (hr : get c'.req l = r) (hx : get c'.leav l = x)
    (h0 : ∀ k, part (s.net ++ ms) k l 0 = (q' k).toList) (h1 : ∀ k, part (s.net ++ ms) k l 1 = (v' k).toList) (h2 : ∀ k, part (s.net ++ ms) k l 2 = (a.h k).toList) :
    IsView ⟨s.caches.set k c', s.homes, s.mem, s.net ++ ms⟩ l { a with P := up a.P k p, R := up a.R k r, L := up a.L k x, q := q', v := v' } := by
  refine ⟨V.hm, fun j => ?_, fun j => ?_, fun j => ?_, h0, h1, h2⟩
  all_goals
    rw [cacheAt_set hk]
    by_cases hj : j = k
    · subst hj; rw [if_pos rfl]
      first | (rw [hp]; exact up_same.symm) | (rw [hr]; exact up_same.symm) | (rw [hx]; exact up_same.symm)
    · rw [if_neg hj]
      first | (rw [V.P]; exact (up_ne hj).symm) | (rw [V.R]; exact (up_ne hj).symm) | (rw [V.L]; exact (up_ne hj).symm)
theorem mem_key_iff {β : Type} {es : List (Nat × β)} {l : Nat} : l ∈ es.map (·.1) ↔ get es l ≠ none := get_key.symm
theorem requestLine_some {c : Cache} {e : Bool} {r : Cache × List Msg} (h : requestLine g c k l e = some r) :
    get c.req l = none ∧ get c.leav l = none ∧ (get c.lines l = none → occ g c l < g.ways) ∧ (∀ st w, get c.lines l = some (st, w) → st = .S) ∧
    r = (⟨c.lines, c.req ++ [(l, e)], c.leav⟩, [⟨k, l, getK e⟩]) := by
  unfold requestLine at h
  by_cases h1 : ((get c.req l).isSome || (get c.leav l).isSome) = true
  · rw [if_pos h1] at h; cases h
  · rw [if_neg h1] at h
    by_cases h2 : g.reqs ≤ c.req.length
    · rw [if_pos h2] at h; cases h
    · rw [if_neg h2] at h
      by_cases h3 : ((get c.lines l).isNone && decide (g.ways ≤ occ g c l)) = true
      · rw [if_pos h3] at h; cases h
      · rw [if_neg h3] at h
        cases hp : get c.lines l with
        | none =>
          rw [hp] at h h3
          simp at h h3 h1
          exact ⟨by cases z : get c.req l <;> simp_all, by cases z : get c.leav l <;> simp_all, fun _ => h3, fun st w z => (nomatch z), h.symm⟩
        | some x =>
          obtain ⟨st, w⟩ := x
          rw [hp] at h
          simp at h h1
          refine ⟨by cases z : get c.req l <;> simp_all, by cases z : get c.leav l <;> simp_all, fun z => (nomatch z), fun st' w' z => ?_, ?_⟩
          · cases z; exact h.1.2
          · rw [← h.2]; unfold getK; rfl
theorem request_inv (I : Inv n size g s) {c : Cache} {e : Bool} {r : Cache × List Msg} (hc : s.caches[k]? = some c) (hl : l < s.homes.length) (h : requestLine g c k l e = some r) :
    Inv n size g ⟨s.caches.set k r.1, s.homes, s.mem, s.net ++ r.2⟩ ∧ ∃ a, IsView ⟨s.caches.set k r.1, s.homes, s.mem, s.net ++ r.2⟩ l a ∧ a.R k = some e ∧ ((∃ a0, IsView s l a0 ∧ ∀ j, a0.q j = none) → ∀ j, j ≠ k → a.q j = none) := by
  obtain ⟨rfl, hk⟩ := cache_get hc
  obtain ⟨h1, h2, h3, h4, rfl⟩ := requestLine_some h
  have K := I.keys k
  have hv : ∀ a, IsView s l a → LInv n (wordsAt g size l) a → IsView ⟨s.caches.set k ⟨(cacheAt s k).lines, (cacheAt s k).req ++ [(l, e)], (cacheAt s k).leav⟩, s.homes, s.mem, s.net ++ [⟨k, l, getK e⟩]⟩ l { a with R := up a.R k (some e), q := up a.q k (some (getK e)) } := fun a V A => by
    have hR : a.R k = none := (V.R k).symm.trans h1
    have := view_act (p := a.P k) (r := some e) (x := a.L k) (q' := up a.q k (some (getK e))) (v' := a.v) (c' := ⟨(cacheAt s k).lines, (cacheAt s k).req ++ [(l, e)], (cacheAt s k).leav⟩) (ms := [⟨k, l, getK e⟩]) hk V (V.P k) (by
      show get ((cacheAt s k).req ++ [(l, e)]) l = _
      rw [get_app, h1]; simp) (V.L k) (part_add V.q (by cases e <;> rfl) (A.r1 k hR)) (part_addNe V.v (by cases e <;> decide)) (part_addNe V.h (by cases e <;> decide))
    rw [up_self, up_self] at this
    exact this
  refine ⟨inv_act I hk hl _ _ (fun x hx => by simp at hx; subst hx; exact ⟨rfl, rfl⟩) (fun l' hl' => ⟨rfl, ?_, rfl⟩) ⟨K.n1, app_keys K.n2 (by rw [mem_key_iff]; simp [h1]), K.n3, K.l1, fun x hx => ?_, K.l3⟩ (fun x => ?_) (fun a V A => ⟨_, hv a V A, t_request A (by rw [← I.nc]; exact hk) ((V.R k).symm.trans h1) ((V.L k).symm.trans h2) (fun st w z => h4 st w ((V.P k).trans z))⟩), ?_⟩
  · show get ((cacheAt s k).req ++ [(l, e)]) l' = _
    rw [get_app]
    cases get (cacheAt s k).req l' <;> simp [hl']
  · rw [List.map_append, List.mem_append] at hx
    rcases hx with hx | hx
    · exact K.l2 x hx
    · simp at hx; subst hx; exact hl
  · rw [occ_eq]
    show occK g _ (((cacheAt s k).req ++ [(l, e)]).map (·.1)) x ≤ _
    rw [List.map_append]
    have q1 := occK_req g ((cacheAt s k).lines.map (·.1)) ((cacheAt s k).req.map (·.1)) l x
    have q2 := I.oc k x
    rw [occ_eq] at q2
    by_cases hc : inSet g x l = true ∧ l ∉ (cacheAt s k).lines.map (·.1)
    · rw [if_pos hc] at q1
      have q3 := h3 (by
        have := hc.2
        rw [mem_key_iff] at this
        simpa using this)
      rw [← occ_set hc.1, occ_eq] at q3
      exact Nat.le_trans q1 q3
    · rw [if_neg hc] at q1
      exact Nat.le_trans q1 q2
  · obtain ⟨a, V, A⟩ := I.vw l
    refine ⟨_, hv a V A, by simp [up], fun ⟨a0, V0, h0⟩ j hj => ?_⟩
    have := view_eq V V0
    subst this
    show up a.q k _ j = none
    rw [up_ne hj]; exact h0 j
theorem giveUp_some {c : Cache} {r : Cache × List Msg} (h : giveUp c k l = some r) :
    get c.req l = none ∧ ∃ st w, get c.lines l = some (st, w) ∧ ((st = .S ∧ r = (⟨wo c.lines l, c.req, c.leav⟩, [])) ∨
      (st ≠ .S ∧ r = (⟨wo c.lines l, c.req, c.leav ++ [(l, some w, st == .M)]⟩, [⟨k, l, .giveUp w (st == .M)⟩]))) := by
  unfold giveUp at h
  cases hp : get c.lines l with
  | none => rw [hp] at h; cases h
  | some x =>
    obtain ⟨st, w⟩ := x
    rw [hp] at h
    simp only at h
    by_cases h1 : (get c.req l).isSome = true
    · rw [if_pos h1] at h; cases h
    · rw [if_neg h1] at h
      refine ⟨by cases z : get c.req l <;> simp_all, st, w, rfl, ?_⟩
      by_cases h2 : st = .S
      · rw [if_pos h2] at h; exact .inl ⟨h2, (Option.some.inj h).symm⟩
      · rw [if_neg h2] at h; exact .inr ⟨h2, (Option.some.inj h).symm⟩
theorem evict_inv (I : Inv n size g s) {c : Cache} {r : Cache × List Msg} (hc : s.caches[k]? = some c) (hl : l < s.homes.length) (h : giveUp c k l = some r) :
    Inv n size g ⟨s.caches.set k r.1, s.homes, s.mem, s.net ++ r.2⟩ ∧ (∀ W, (r.2.map (fun x => wt W x.k)).sum ≤ 2) ∧
    (∀ x, inSet g x l = true → occ g r.1 x + 1 ≤ occ g c x) ∧ (∀ l', get c.lines l' = none → get r.1.lines l' = none) ∧ r.1.req = c.req := by
  obtain ⟨rfl, hk⟩ := cache_get hc
  obtain ⟨h1, st, w, h2, h3⟩ := giveUp_some h
  have K := I.keys k
  have hmem : l ∈ (cacheAt s k).lines.map (·.1) := by rw [mem_key_iff, h2]; simp
  have hnr : l ∉ (cacheAt s k).req.map (·.1) := by rw [mem_key_iff]; simp [h1]
  have hlines : r.1.lines = wo (cacheAt s k).lines l := by rcases h3 with ⟨_, rfl⟩ | ⟨_, rfl⟩ <;> rfl
  have hreq : r.1.req = (cacheAt s k).req := by rcases h3 with ⟨_, rfl⟩ | ⟨_, rfl⟩ <;> rfl
  have hocc : ∀ x, occ g r.1 x ≤ occ g (cacheAt s k) x := fun x => occ_of (by rw [hlines, hreq, wo_map]; exact occK_drop g _ _ _ _ K.n2)
  have hgl : ∀ l', l' ≠ l → get r.1.lines l' = get (cacheAt s k).lines l' := fun l' hl' => by rw [hlines, get_wo, if_neg hl']
  refine ⟨?_, ?_, fun x hx => ?_, fun l' e => ?_, hreq⟩
  · have hn1 : (r.1.lines.map (·.1)).Nodup := by rw [hlines]; exact wo_keys _ _ K.n1
    have hl1 : ∀ x, x ∈ r.1.lines.map (·.1) → x < s.homes.length := fun x hx => by
      rw [hlines, wo_map, mem_drop_key] at hx; exact K.l1 x hx.1
    rcases h3 with ⟨hS, rfl⟩ | ⟨hS, rfl⟩
    · refine inv_act I hk hl _ _ (fun x hx => absurd hx (by simp)) (fun l' hl' => ⟨hgl l' hl', rfl, rfl⟩) ⟨hn1, K.n2, K.n3, hl1, K.l2, K.l3⟩ (fun x => Nat.le_trans (hocc x) (I.oc k x)) (fun a V A => ?_)
      subst hS
      refine ⟨_, view_act (p := none) (r := a.R k) (x := a.L k) (q' := a.q) (v' := a.v) hk V ?_ (V.R k) (V.L k) ?_ ?_ ?_, ?_⟩
      · show get (wo _ l) l = _
        rw [get_wo, if_pos rfl]
      · rw [List.append_nil]; exact V.q
      · rw [List.append_nil]; exact V.v
      · rw [List.append_nil]; exact V.h
      · rw [up_self, up_self]
        exact t_dropS A ((V.P k).symm.trans h2) ((V.R k).symm.trans h1)
    · obtain ⟨a, V, A⟩ := I.vw l
      have hP : a.P k = some (st, w) := (V.P k).symm.trans h2
      have hL : a.L k = none := by
        cases z : a.L k with
        | none => rfl
        | some y => have := (A.pl k (by rw [z]; simp)).1; rw [hP] at this; cases this
      have hL' : get (cacheAt s k).leav l = none := (V.L k).trans hL
      have hnl : l ∉ (cacheAt s k).leav.map (·.1) := by rw [mem_key_iff]; simp [hL']
      refine inv_act I hk hl _ _ (fun x hx => by simp at hx; subst hx; exact ⟨rfl, rfl⟩) (fun l' hl' => ⟨hgl l' hl', rfl, ?_⟩) ⟨hn1, K.n2, app_keys K.n3 hnl, hl1, K.l2, fun x hx => ?_⟩ (fun x => Nat.le_trans (hocc x) (I.oc k x)) (fun a V A => ?_)
      · show get (_ ++ [_]) l' = _
        rw [get_app]
        cases get (cacheAt s k).leav l' <;> simp [hl']
      · rw [List.map_append, List.mem_append] at hx
        rcases hx with hx | hx
        · exact K.l3 x hx
        · simp at hx; subst hx; exact hl
      · have hLa : a.L k = none := (V.L k).symm.trans hL'
        refine ⟨_, view_act (p := none) (r := a.R k) (x := some (some w, st == .M)) (q' := a.q) (v' := up a.v k (some (.giveUp w (st == .M)))) hk V ?_ (V.R k) ?_ (part_addNe V.q (by simp [MK.cls])) (part_add V.v rfl ((A.lv k).mp hLa)) (part_addNe V.h (by simp [MK.cls])), ?_⟩
        · show get (wo _ l) l = _
          rw [get_wo, if_pos rfl]
        · show get (_ ++ [_]) l = _
          rw [get_app, hL']; simp
        · rw [up_self]
          exact t_leave A ((V.P k).symm.trans h2) hS ((V.R k).symm.trans h1) _
  · intro W
    rcases h3 with ⟨_, rfl⟩ | ⟨_, rfl⟩ <;> simp [wt]
  · have q1 := occK_drop1 g ((cacheAt s k).lines.map (·.1)) ((cacheAt s k).req.map (·.1)) l x hnr hmem hx
    rw [← wo_map, ← hlines] at q1
    rw [occ_eq, occ_eq, hreq]
    exact q1
  · by_cases hl' : l' = l
    · subst hl'; rw [hlines, get_wo, if_pos rfl]
    · rw [hgl l' hl']; exact e
/-- any action that is possible -/
theorem act2_inv (I : Inv n size g s) {e : Option Bool} {s' : Sys} (h : act2 g s k l e = some s') : Inv n size g s' ∧ ∀ W F, PotOk W F n → pot W F s' ≤ pot W F s + W := by
  unfold act2 at h
  by_cases hl : l < s.homes.length
  · rw [if_pos hl] at h
    cases hc : s.caches[k]? with
    | none => rw [hc] at h; cases h
    | some c =>
      rw [hc] at h
      simp only at h
      cases e with
      | some e =>
        simp only at h
        cases hr : requestLine g c k l e with
        | none => rw [hr] at h; cases h
        | some r =>
          rw [hr] at h
          cases h
          refine ⟨(request_inv I hc hl hr).1, fun W F hF => ?_⟩
          obtain ⟨_, _, _, _, rfl⟩ := requestLine_some hr
          unfold pot
          simp only [List.map_append, List.sum_append_nat]
          have : wt W (getK e) = W := by cases e <;> rfl
          simp [this]; omega
      | none =>
        simp only at h
        cases hr : giveUp c k l with
        | none => rw [hr] at h; cases h
        | some r =>
          rw [hr] at h
          cases h
          obtain ⟨h1, h2, _⟩ := evict_inv I hc hl hr
          refine ⟨h1, fun W F hF => ?_⟩
          unfold pot
          simp only [List.map_append, List.sum_append_nat]
          have := h2 W
          have := hF.f1 0
          omega
  · rw [if_neg hl] at h; cases h
end
end LK
set_option maxHeartbeats 1000000
/-! The start, runs of deliveries, one wanted line. -/
namespace LK
section
variable {n size : Nat} {g : Cfg} {s t u : Sys} {k l : Nat}
theorem getD_replicate {α : Type} (a b n k : Nat) (x : α) : (List.replicate n x).getD k x = x := by
  rw [List.getD_eq_getElem?_getD, List.getElem?_replicate]
  by_cases h : k < n <;> simp [h]
theorem inv_start (n size : Nat) (g : Cfg) : Inv n size g (start n size g) := by
  have hc : ∀ k, cacheAt (start n size g) k = ⟨[], [], []⟩ := fun k => getD_replicate 0 0 n k _
  have hh : ∀ l, homeAt (start n size g) l = ⟨none, [], none⟩ := fun l => getD_replicate 0 0 _ l _
  refine ⟨by simp [start], by simp [start], rfl, fun k => ?_, fun k x => ?_, fun m hm => absurd hm (by simp [start]), fun l => ⟨⟨none, [], none, fun _ => none, fun _ => none, fun _ => none, fun _ => none, fun _ => none, fun _ => none⟩, ⟨hh l, fun k => ?_, fun k => ?_, fun k => ?_, fun k => rfl, fun k => rfl, fun k => rfl⟩, ?_⟩⟩
  · rw [hc]; exact ⟨.nil, .nil, .nil, by simp, by simp, by simp⟩
  · rw [hc]; exact Nat.zero_le _
  · rw [hc]; rfl
  · rw [hc]; rfl
  · rw [hc]; rfl
  · constructor <;> simp [isGr, isRet, hasW]
theorem pot_start (W : Nat) {F : Nat → Nat} (hF : F 0 = 0) (n size : Nat) (g : Cfg) : pot W F (start n size g) = 0 := by
  unfold pot start
  have : ∀ j, ((List.replicate j (⟨none, [], none⟩ : Home)).map (hp F)).sum = 0 := by
    intro j
    induction j with
    | zero => rfl
    | succ j ih => rw [List.replicate_succ, List.map_cons, List.sum_cons, ih]; simp [hp, hF]
  simp only [this]; rfl
/-- j deliveries, one behind another -/
inductive Run (g : Cfg) : Nat → Sys → Sys → Prop
  | nil {s : Sys} : Run g 0 s s
  | step {j i : Nat} {s t u : Sys} : Run g j s t → i ∈ delivIdx t → delivered g t i = some u → Run g (j + 1) s u
theorem Run.inv {j : Nat} (R : Run g j s t) (I : Inv n size g s) : Inv n size g t := by
  induction R with
  | nil => exact I
  | step R hi hd ih =>
    obtain ⟨m, h1, h2⟩ := mem_delivIdx.mp hi
    obtain ⟨u', h3, S⟩ := deliver_ok (ih I) h1 h2
    rw [hd] at h3; cases h3
    exact S.inv (ih I)
theorem Run.pot {j : Nat} (R : Run g j s t) (I : Inv n size g s) {W : Nat} {F : Nat → Nat} (hF : PotOk W F n) : pot W F t + j ≤ pot W F s := by
  induction R with
  | nil => exact Nat.le_refl _
  | step R hi hd ih =>
    obtain ⟨m, h1, h2⟩ := mem_delivIdx.mp hi
    obtain ⟨u', h3, S⟩ := deliver_ok (R.inv I) h1 h2
    rw [hd] at h3; cases h3
    have := S.pot W F hF
    have := ih I
    omega
theorem Run.oc {j : Nat} (R : Run g j s t) (I : Inv n size g s) (k x : Nat) : occ g (cacheAt t k) x ≤ occ g (cacheAt s k) x := by
  induction R with
  | nil => exact Nat.le_refl _
  | step R hi hd ih =>
    obtain ⟨m, h1, h2⟩ := mem_delivIdx.mp hi
    obtain ⟨u', h3, S⟩ := deliver_ok (R.inv I) h1 h2
    rw [hd] at h3; cases h3
    exact Nat.le_trans (S.oc k x) (ih I)
theorem Run.keeps {j : Nat} (R : Run g j s t) (I : Inv n size g s) {l : Nat} (Pr : LV → Prop) (hP : ∀ a b, VStep n (wordsAt g size l) a b → LInv n (wordsAt g size l) a → Pr a → Pr b)
    (h : ∃ a, IsView s l a ∧ Pr a) : ∃ a, IsView t l a ∧ Pr a := by
  induction R with
  | nil => exact h
  | step R hi hd ih =>
    obtain ⟨m, h1, h2⟩ := mem_delivIdx.mp hi
    obtain ⟨u', h3, S⟩ := deliver_ok (R.inv I) h1 h2
    rw [hd] at h3; cases h3
    exact S.keeps (R.inv I) Pr hP (ih I h)
/-- a delivery that may be done goes -/
theorem delivered_some (I : Inv n size g s) {i : Nat} (hi : i ∈ delivIdx s) : ∃ t, delivered g s i = some t := by
  obtain ⟨m, h1, h2⟩ := mem_delivIdx.mp hi
  obtain ⟨u', h3, S⟩ := deliver_ok I h1 h2
  exact ⟨u', h3⟩
/-- behind as many deliveries as there can be nothing is in flight -/
theorem run_end {j : Nat} (R : Run g j s t) (I : Inv n size g s) {W : Nat} {F : Nat → Nat} (hF : PotOk W F n) (h : pot W F s ≤ j) : t.net = [] := by
  have h1 := R.pot I hF
  have h2 : t.net.length ≤ pot W F t := len_le_pot (by have := hF.f1 0; omega)
  have : t.net.length = 0 := by omega
  exact List.length_eq_zero_iff.mp this
/-! ### two potentials -/
def F3 (x : Nat) : Nat := if 3 ≤ x then 1 else 0
theorem pot8 (hn : n ≤ 4) : PotOk 8 F3 n := by
  refine ⟨fun x hx => ?_, fun x => ?_, fun _ => by omega, fun x y h1 h2 => ?_⟩ <;> unfold F3 <;> split <;> omega
theorem potB (hn : 1 ≤ n) : PotOk (2 * n + 1) (fun _ => 0) n :=
  ⟨fun _ _ => rfl, fun _ => by omega, fun h => by omega, fun x y h1 h2 => by omega⟩
theorem pot_quiet {W B : Nat} {F : Nat → Nat} (I : Inv n size g s) (hn : s.net = []) (hB : ∀ x, F x ≤ B) : pot W F s ≤ B * s.homes.length := by
  unfold pot
  rw [hn]
  have h1 : ∀ h, h ∈ s.homes → hp F h ≤ B := fun h hh => by
    obtain ⟨l, hl⟩ := List.mem_iff_getElem?.mp hh
    obtain ⟨a, V, A⟩ := I.vw l
    have h2 := (quiet_line I hn V).1
    have h3 : homeAt s l = h := by unfold homeAt; simp [List.getD_eq_getElem?_getD, hl]
    have h4 := V.hm
    rw [h3] at h4
    subst h4
    rw [hp_idle h2]; exact hB _
  have h2 : ∀ hs : List Home, (∀ h, h ∈ hs → hp F h ≤ B) → (hs.map (hp F)).sum ≤ B * hs.length := by
    intro hs
    induction hs with
    | nil => intro _; simp
    | cons h hs ih =>
      intro hh
      have h3 := ih (fun x hx => hh x (List.mem_cons_of_mem _ hx))
      have h4 := hh h (by simp)
      simp only [List.map_cons, List.sum_cons, List.length_cons]
      rw [Nat.mul_succ]; omega
  have := h2 s.homes h1
  simpa using this
/-! ### one wanted line -/
theorem quiet_cache (I : Inv n size g s) (hn : s.net = []) (k : Nat) : (cacheAt s k).req = [] ∧ (cacheAt s k).leav = [] := by
  have nil_of : ∀ {β : Type} (es : List (Nat × β)), (∀ l, get es l = none) → es = [] := fun es h => by
    cases es with
    | nil => rfl
    | cons e es => exact absurd rfl (get_none.mp (h e.1) e (by simp))
  constructor
  · apply nil_of
    intro l
    obtain ⟨a, V, A⟩ := I.vw l
    obtain ⟨q1, q2, q3, q4⟩ := quiet_line I hn V
    rw [V.R]
    cases z : a.R k with
    | none => rfl
    | some e =>
      rcases A.r6 k (by rw [z]; simp) with h | h | h
      · exact absurd (q2 k) h
      · rw [q4 k] at h; cases h
      · rw [q1] at h; cases h
  · apply nil_of
    intro l
    obtain ⟨a, V, A⟩ := I.vw l
    obtain ⟨q1, q2, q3, q4⟩ := quiet_line I hn V
    rw [V.L]
    exact (A.lv k).mpr (q3 k)
theorem evict_ok (I : Inv n size g s) (hn : s.net = []) (hk : k < n) {r : Nat} (hr : r ∈ (cacheAt s k).lines.map (·.1)) :
    ∃ t, act2 g s k r none = some t ∧ Inv n size g t ∧ (∀ W F, PotOk W F n → pot W F t ≤ pot W F s + 2) ∧
      (∀ x, inSet g x r = true → occ g (cacheAt t k) x + 1 ≤ occ g (cacheAt s k) x) ∧
      (∀ l, get (cacheAt s k).lines l = none → ∃ a, IsView t l a ∧ Gone k a) := by
  have hkc : k < s.caches.length := by rw [I.nc]; exact hk
  have hc := cache_some hkc
  have hl := (I.keys k).l1 r hr
  obtain ⟨q1, q2⟩ := quiet_cache I hn k
  cases hg : giveUp (cacheAt s k) k r with
  | none =>
    exfalso
    unfold giveUp at hg
    rw [mem_key_iff] at hr
    cases hp : get (cacheAt s k).lines r with
    | none => exact hr hp
    | some x =>
      obtain ⟨st, w⟩ := x
      rw [hp, q1] at hg
      simp only [get_nil, Option.isSome_none, Bool.false_eq_true, if_false] at hg
      by_cases h : st = .S
      · rw [if_pos h] at hg; cases hg
      · rw [if_neg h] at hg; cases hg
  | some rr =>
    obtain ⟨h1, h2, h3, h4, h5⟩ := evict_inv I hc hl hg
    refine ⟨⟨s.caches.set k rr.1, s.homes, s.mem, s.net ++ rr.2⟩, ?_, h1, fun W F hF => ?_, fun x hx => ?_, fun l' e => ?_⟩
    · unfold act2
      rw [if_pos hl, hc]
      simp only [hg]
    · unfold pot
      simp only [List.map_append, List.sum_append_nat]
      have := h2 W
      omega
    · rw [cacheAt_set hkc, if_pos rfl]; exact h3 x hx
    · obtain ⟨a, V, A⟩ := h1.vw l'
      refine ⟨a, V, ?_, ?_⟩
      · rw [← V.P k, cacheAt_set hkc, if_pos rfl]; exact h4 l' e
      · rw [← V.R k, cacheAt_set hkc, if_pos rfl, h5, q1]; rfl
theorem gone_get (h : ∃ a, IsView s l a ∧ Gone k a) : get (cacheAt s k).lines l = none := by
  obtain ⟨a, V, h1, h2⟩ := h
  rw [V.P]; exact h1
theorem request_ok (I : Inv n size g s) (hn : s.net = []) (hk : k < n) (hl : l < s.homes.length) (hq : 1 ≤ g.reqs) {e : Bool}
    (h1 : get (cacheAt s k).lines l = none → occ g (cacheAt s k) l < g.ways) (h2 : ∀ st w, get (cacheAt s k).lines l = some (st, w) → st = .S ∧ e = true) :
    ∃ t, act2 g s k l (some e) = some t ∧ Inv n size g t ∧ (∀ W F, PotOk W F n → pot W F t ≤ pot W F s + W) ∧ ∃ a, IsView t l a ∧ Want k e a := by
  have hkc : k < s.caches.length := by rw [I.nc]; exact hk
  have hc := cache_some hkc
  obtain ⟨q1, q2⟩ := quiet_cache I hn k
  have hr : requestLine g (cacheAt s k) k l e = some (⟨(cacheAt s k).lines, (cacheAt s k).req ++ [(l, e)], (cacheAt s k).leav⟩, [⟨k, l, if e then .getM else .getS⟩]) := by
    unfold requestLine
    rw [q1, q2]
    simp only [get_nil, Option.isSome_none, Bool.or_self, Bool.false_eq_true, if_false, List.length_nil]
    rw [if_neg (by omega)]
    cases hp : get (cacheAt s k).lines l with
    | none =>
      have := h1 hp
      simp; omega
    | some x =>
      obtain ⟨st, w⟩ := x
      obtain ⟨rfl, rfl⟩ := h2 st w hp
      simp
  have ha : act2 g s k l (some e) = some ⟨s.caches.set k ⟨(cacheAt s k).lines, (cacheAt s k).req ++ [(l, e)], (cacheAt s k).leav⟩, s.homes, s.mem, s.net ++ [⟨k, l, if e then .getM else .getS⟩]⟩ := by
    unfold act2
    rw [if_pos hl, hc]
    simp only [hr]
  obtain ⟨a1, a2⟩ := request_inv I hc hl hr
  obtain ⟨a, V, hR, hq⟩ := a2
  refine ⟨_, ha, a1, (act2_inv I ha).2, a, V, .inl ⟨hR, hq ?_⟩⟩
  obtain ⟨a0, V0, A0⟩ := I.vw l
  exact ⟨a0, V0, (quiet_line I hn V0).2.1⟩
theorem want_done (I : Inv n size g s) (hn : s.net = []) {e : Bool} (h : ∃ a, IsView s l a ∧ Want k e a) : ∃ st w, get (cacheAt s k).lines l = some (st, w) ∧ (e = true → st ≠ .S) := by
  obtain ⟨a, V, h⟩ := h
  obtain ⟨q1, _⟩ := quiet_cache I hn k
  have hR : a.R k = none := by rw [← V.R, q1]; rfl
  rcases h with ⟨h, _⟩ | ⟨_, _, _, st, w, h3, h4⟩
  · rw [hR] at h; cases h
  · exact ⟨st, w, (V.P k).trans h3, h4⟩
end
end LK
set_option maxRecDepth 100000
set_option maxHeartbeats 4000000
/-! What a value stands for, as plain data; expressions, tests, statements by what they yield of such data. -/
namespace WK
open PySem PySem.Spec PyProof.Rows L2
/-- plain data: a tuple by its items; one whose items do not matter by its length; a configuration; an address; lists of ints, of texts, that stand still -/
inductive D where
  | non | bl (b : Bool) | int (i : Int) | str (s : Str) | tup (xs : List D) | blob (n : Nat) | cfg (g : LK.Cfg) | adr (a : Addr) | ilst (ns : List Int) | slst (ss : List Str)
def CfgFs (g : LK.Cfg) (fs : List (Str × V)) : Prop :=
  fs.lookup ("line_words" : Str) = some (.int g.lw) ∧ fs.lookup ("sets" : Str) = some (.int g.sets) ∧ fs.lookup ("ways" : Str) = some (.int g.ways) ∧ fs.lookup ("requests" : Str) = some (.int g.reqs) ∧ fs.lookup ("exclusive_state" : Str) = some (.bl g.alone)
mutual
inductive Rp (K : PySem.W.Frag) (C : Addr) (H : Hp) : V → D → Prop
  | non : Rp K C H .non .non
  | bl (b : Bool) : Rp K C H (.bl b) (.bl b)
  | int (i : Int) : Rp K C H (.int i) (.int i)
  | str (s : Str) : Rp K C H (.str s) (.str s)
  | tup {a : Addr} {xs : List V} {ds : List D} : SqT K H a xs → RpAll K C H xs ds → Rp K C H (.ref a) (.tup ds)
  | blob {a : Addr} {xs : List V} {n : Nat} : SqT K H a xs → xs.length = n → Rp K C H (.ref a) (.blob n)
  | cfg {a dx : Addr} {fs : List (Str × V)} {g : LK.Cfg} : H a = some (.ins C dx fs) → CfgFs g fs → Rp K C H (.ref a) (.cfg g)
  | adr (a : Addr) : Rp K C H (.ref a) (.adr a)
  | ilst {a : Addr} {ns : List Int} : SqL K H a (ns.map V.int) → Rp K C H (.ref a) (.ilst ns)
  | slst {a : Addr} {ss : List Str} : SqL K H a (ss.map V.str) → Rp K C H (.ref a) (.slst ss)
inductive RpAll (K : PySem.W.Frag) (C : Addr) (H : Hp) : List V → List D → Prop
  | nil : RpAll K C H [] []
  | cons {v : V} {vs : List V} {d : D} {ds : List D} : Rp K C H v d → RpAll K C H vs ds → RpAll K C H (v :: vs) (d :: ds)
end
section
variable {K : PySem.W.Frag} {C : Addr} {H H' : Hp}
structure Pres (K : PySem.W.Frag) (C : Addr) (H H' : Hp) : Prop where
  t : ∀ a xs, SqT K H a xs → SqT K H' a xs
  i : ∀ a (ns : List Int), SqL K H a (ns.map V.int) → SqL K H' a (ns.map V.int)
  s : ∀ a (ss : List Str), SqL K H a (ss.map V.str) → SqL K H' a (ss.map V.str)
  o : ∀ a dx fs, H a = some (.ins C dx fs) → H' a = some (.ins C dx fs)
mutual
theorem Rp.pres (p : Pres K C H H') : ∀ (d : D) (v : V), Rp K C H v d → Rp K C H' v d
  | .non, _, .non => .non
  | .bl _, _, .bl b => .bl b
  | .int _, _, .int i => .int i
  | .str _, _, .str s => .str s
  | .tup ds, _, .tup h r => .tup (p.t _ _ h) (RpAll.pres p ds _ r)
  | .blob _, _, .blob h e => .blob (p.t _ _ h) e
  | .cfg _, _, .cfg h e => .cfg (p.o _ _ _ h) e
  | .adr _, _, .adr a => .adr a
  | .ilst _, _, .ilst h => .ilst (p.i _ _ h)
  | .slst _, _, .slst h => .slst (p.s _ _ h)
theorem RpAll.pres (p : Pres K C H H') : ∀ (ds : List D) (vs : List V), RpAll K C H vs ds → RpAll K C H' vs ds
  | [], _, .nil => .nil
  | d :: ds, _, .cons h r => .cons (Rp.pres p d _ h) (RpAll.pres p ds _ r)
end
theorem RpAll.length : ∀ {vs : List V} {ds : List D}, RpAll K C H vs ds → vs.length = ds.length
  | _, _, .nil => rfl
  | _, _, .cons _ r => by rw [List.length_cons, List.length_cons, RpAll.length r]
theorem RpAll.get : ∀ {vs : List V} {ds : List D} {i : Nat} {d : D}, RpAll K C H vs ds → ds[i]? = some d → ∃ v, vs[i]? = some v ∧ Rp K C H v d
  | _, _, _, _, .nil, e => by simp at e
  | _, _, 0, d, .cons h _, e => by simp at e; subst e; exact ⟨_, rfl, h⟩
  | _, _, i + 1, d, .cons _ r, e => by
    obtain ⟨v, h1, h2⟩ := RpAll.get (i := i) (d := d) r (by simpa using e)
    exact ⟨v, by simpa using h1, h2⟩
theorem RpAll.getV : ∀ {vs : List V} {ds : List D} {i : Nat} {v : V}, RpAll K C H vs ds → vs[i]? = some v → ∃ d, ds[i]? = some d ∧ Rp K C H v d
  | _, _, _, _, .nil, e => by simp at e
  | _, _, 0, d, .cons h _, e => by simp at e; subst e; exact ⟨_, rfl, h⟩
  | _, _, i + 1, d, .cons _ r, e => by
    obtain ⟨v, h1, h2⟩ := RpAll.getV (i := i) r (by simpa using e)
    exact ⟨v, by simpa using h1, h2⟩
theorem RpAll.append : ∀ {vs ws : List V} {ds es : List D}, RpAll K C H vs ds → RpAll K C H ws es → RpAll K C H (vs ++ ws) (ds ++ es)
  | _, _, _, _, .nil, s => s
  | _, _, _, _, .cons h r, s => .cons h (RpAll.append r s)
theorem RpAll.take : ∀ {vs : List V} {ds : List D} (n : Nat), RpAll K C H vs ds → RpAll K C H (vs.take n) (ds.take n)
  | _, _, 0, _ => .nil
  | _, _, _ + 1, .nil => .nil
  | _, _, n + 1, .cons h r => .cons h (RpAll.take n r)
theorem RpAll.drop : ∀ {vs : List V} {ds : List D} (n : Nat), RpAll K C H vs ds → RpAll K C H (vs.drop n) (ds.drop n)
  | _, _, 0, r => r
  | _, _, _ + 1, .nil => .nil
  | _, _, n + 1, .cons _ r => RpAll.drop n r
theorem RpAll.ints : ∀ {vs : List V} {ns : List Int}, RpAll K C H vs (ns.map D.int) → vs = ns.map V.int
  | vs, [], h => by cases h; rfl
  | vs, n :: ns, h => by
    cases h with
    | cons h r => cases h; rw [List.map_cons, RpAll.ints r]
theorem RpAll.strs : ∀ {vs : List V} {ss : List Str}, RpAll K C H vs (ss.map D.str) → vs = ss.map V.str
  | vs, [], h => by cases h; rfl
  | vs, n :: ns, h => by
    cases h with
    | cons h r => cases h; rw [List.map_cons, RpAll.strs r]
end
/-! ### the tape: the one list that changes -/
structure Tp where
  a : Addr
  L : Addr
  xs : List Int
def IsTape (K : PySem.W.Frag) (H : Hp) (u : Tp) : Prop := ∃ (p n t : Int), H u.a = some (.lst [.ref u.L, .int p, .int n, .int t]) ∧ SqL K H u.L (u.xs.map V.int) ∧ 0 ≤ p ∧ 0 ≤ n ∧ 0 ≤ t ∧ t < 2147483647
def Good (K : PySem.W.Frag) : Option Tp → Hp → Prop
  | none, _ => True
  | some u, H => IsTape K H u
def Keep (K : PySem.W.Frag) : Option Tp → Hp → Hp → Prop
  | none, H, H' => Same H H'
  | some u, H, H' => (∀ b o, b ≠ u.a → H b = some o → H' b = some o) ∧ IsTape K H u ∧ IsTape K H' u
section
variable {K : PySem.W.Frag} {C : Addr} {M : Option Tp} {H H1 H' : Hp}
theorem Keep.refl (g : Good K M H) : Keep K M H H := by
  cases M with
  | none => exact Same.refl H
  | some a => exact ⟨fun _ _ _ h => h, g, g⟩
theorem Keep.trans (a : Keep K M H H1) (b : Keep K M H1 H') : Keep K M H H' := by
  cases M with
  | none => exact Same.trans a b
  | some x => exact ⟨fun c o n h => b.1 c o n (a.1 c o n h), a.2.1, b.2.2⟩
theorem Keep.good (k : Keep K M H H') : Good K M H' := by
  cases M with
  | none => trivial
  | some a => exact k.2.2
theorem Keep.good0 (k : Keep K M H H') : Good K M H := by
  cases M with
  | none => trivial
  | some a => exact k.2.1
theorem Same.tape {u : Tp} (e : Same H H') (t : IsTape K H u) : IsTape K H' u := by
  obtain ⟨p, n, t, h1, h2, h3⟩ := t
  exact ⟨p, n, t, e _ _ h1, e.seq h2, h3⟩
theorem Keep.of_same (g : Good K M H) (e : Same H H') : Keep K M H H' := by
  cases M with
  | none => exact e
  | some a => exact ⟨fun b o _ h => e b o h, g, Same.tape e g⟩
theorem Keep.fresh (k : Keep K M H H') {p : Addr} (h : H' p = none) : H p = none := by
  cases M with
  | none => exact Same.free k h
  | some a =>
    cases q : H p with
    | none => rfl
    | some o =>
      by_cases e : p = a.a
      · subst e
        obtain ⟨_, _, _, h1, _⟩ := k.2.2
        rw [h] at h1; cases h1
      · rw [k.1 p o e q] at h; cases h
/-- what is no tape stands -/
theorem Keep.stands (k : Keep K M H H') {b : Addr} {o : HO} (h : H b = some o) (hn : ∀ L p n t, o ≠ .lst [.ref L, .int p, .int n, .int t]) : H' b = some o := by
  cases M with
  | none => exact k b o h
  | some a =>
    refine k.1 b o (fun e => ?_) h
    subst e
    obtain ⟨p, n, t, h1, _⟩ := k.2.1
    rw [h] at h1
    exact hn _ p n t (Option.some.inj h1)
theorem Keep.rd (k : Keep K M H H') {b : Addr} {o : HO} (h : Rd H b o) (hn : ∀ L p n t, o ≠ .lst [.ref L, .int p, .int n, .int t]) : Rd H' b o := by
  rcases h with h | ⟨u, h⟩
  · exact .inl (k.stands h hn)
  · exact .inr ⟨u, k.stands h (by intro L p n t q; cases q)⟩
theorem Keep.sqT (k : Keep K M H H') {b : Addr} {xs : List V} (h : SqT K H b xs) : SqT K H' b xs := by
  rcases h with h | h
  · exact .inl (k.rd h (by intro L p n t q; cases q))
  · exact .inr h
theorem Keep.sqL (k : Keep K M H H') {b : Addr} {xs : List V} (h : SqL K H b xs) (hn : ∀ L p n t, xs ≠ [.ref L, .int p, .int n, .int t]) : SqL K H' b xs := by
  rcases h with h | h
  · exact .inl (k.rd h (by intro L p n t q; cases q; exact hn _ _ _ _ rfl))
  · exact .inr h
theorem ints_no (ns : List Int) : ∀ (L : Addr) (p n t : Int), ns.map V.int ≠ [.ref L, .int p, .int n, .int t] := by
  intro L p n t e
  cases ns with
  | nil => cases e
  | cons x xs => rw [List.map_cons] at e; injection e with e1 _; cases e1
theorem strs_no (ss : List Str) : ∀ (L : Addr) (p n t : Int), ss.map V.str ≠ [.ref L, .int p, .int n, .int t] := by
  intro L p n t e
  cases ss with
  | nil => cases e
  | cons x xs => rw [List.map_cons] at e; injection e with e1 _; cases e1
theorem Keep.pres (k : Keep K M H H') : Pres K C H H' :=
  ⟨fun _ _ h => k.sqT h, fun _ ns h => k.sqL h (ints_no ns), fun _ ss h => k.sqL h (strs_no ss), fun _ _ _ h => k.stands h (by intro L p n t q; cases q)⟩
theorem Keep.rp (k : Keep K M H H') {v : V} {d : D} (h : Rp K C H v d) : Rp K C H' v d := Rp.pres k.pres d v h
theorem Keep.rps (k : Keep K M H H') {vs : List V} {ds : List D} (h : RpAll K C H vs ds) : RpAll K C H' vs ds := RpAll.pres k.pres ds vs h
theorem same_new {p : Addr} {o : HO} (h : H p = none) : Same H (upd H p o) := fun b x e => by
  rw [upd_ne (ne_of_none e h)]
  exact e
theorem Keep.new (g : Good K M H) {p : Addr} {o : HO} (h : H p = none) : Keep K M H (upd H p o) := Keep.of_same g (same_new h)
end
/-- a list made on the way: the tape is another one -/
theorem Keep.mine {K : PySem.W.Frag} {M : Option Tp} {H H1 H2 : Hp} {p : Addr} {o : HO} (g : Good K M H) (hp : H p = none) (k : Keep K M H1 H2) (h : H1 p = some o) : H2 p = some o := by
  cases M with
  | none => exact k p o h
  | some u =>
    refine k.1 p o (fun e => ?_) h
    subst e
    obtain ⟨_, _, _, h1, _⟩ := g
    rw [hp] at h1; cases h1
/-! ### the slots -/
abbrev Env := List (Option D)
structure StR (K : PySem.W.Frag) (C : Addr) (H : Hp) (σ : L2.St) (env : Env) : Prop where
  len : σ.length = env.length
  get : ∀ (i : Nat) (d : D), env[i]? = some (some d) → ∃ v, σ[i]? = some (some v) ∧ Rp K C H v d
section
variable {K : PySem.W.Frag} {C : Addr} {M : Option Tp} {H H' : Hp} {σ : L2.St} {env : Env}
theorem StR.keep (s : StR K C H σ env) (k : Keep K M H H') : StR K C H' σ env := ⟨s.len, fun i d e => by
  obtain ⟨v, h1, h2⟩ := s.get i d e
  exact ⟨v, h1, k.rp h2⟩⟩
theorem StR.set (s : StR K C H σ env) {v : V} {d : D} (i : Nat) (h : Rp K C H v d) : StR K C H (σ.set i (some v)) (env.set i (some d)) := ⟨by rw [List.length_set, List.length_set, s.len], fun j x e => by
  by_cases hj : i = j
  · subst hj
    by_cases hi : i < env.length
    · rw [List.getElem?_set_self hi] at e
      cases e
      exact ⟨v, List.getElem?_set_self (by rw [s.len]; exact hi), h⟩
    · rw [List.getElem?_eq_none (by rw [List.length_set]; omega)] at e; cases e
  · rw [List.getElem?_set_ne hj] at e
    obtain ⟨w, h1, h2⟩ := s.get j x e
    exact ⟨w, by rw [List.getElem?_set_ne hj]; exact h1, h2⟩⟩
/-- fewer facts -/
theorem StR.less (s : StR K C H σ env) {env' : Env} (hl : env'.length = env.length) (h : ∀ (i : Nat) (d : D), env'[i]? = some (some d) → env[i]? = some (some d)) : StR K C H σ env' := ⟨s.len.trans hl.symm, fun i d e => s.get i d (h i d e)⟩
end
/-! ### readings by data -/
section
variable (X : Cx) (C : Addr) (M : Option Tp)
def Lift (H : Hp) (Q : D → Prop) (Q' : VK) : Prop := ∀ v d H', Keep X.K M H H' → Rp X.K C H' v d → Q d → Q' v H'
def LiftA (H : Hp) (Q : List D → Prop) (Q' : List V → Hp → Prop) : Prop := ∀ vs ds H', Keep X.K M H H' → RpAll X.K C H' vs ds → Q ds → Q' vs H'
def LiftT (H : Hp) (Q : Bool → Prop) (Q' : Bool → Hp → Prop) : Prop := ∀ b H', Keep X.K M H H' → Q b → Q' b H'
def AE (t : TE) (env : Env) (Q : D → Prop) : Prop := ∀ σ H, Good X.K M H → StR X.K C H σ env → ∀ Q' : VK, Lift X C M H Q Q' → t σ H Q'
def AA (t : TA) (env : Env) (Q : List D → Prop) : Prop := ∀ σ H, Good X.K M H → StR X.K C H σ env → ∀ Q', LiftA X C M H Q Q' → t σ H Q'
def AT (t : TT) (env : Env) (Q : Bool → Prop) : Prop := ∀ σ H, Good X.K M H → StR X.K C H σ env → ∀ Q', LiftT X M H Q Q' → t σ H Q'
/-- an operation on values by data -/
def RA (r : V → V → Hp → VK → Prop) (x y : D) (Q : D → Prop) : Prop := ∀ v u H, Good X.K M H → Rp X.K C H v x → Rp X.K C H u y → ∀ Q', Lift X C M H Q Q' → r v u H Q'
structure DEnds where
  nx : Env → Prop
  rt : D → Prop
  bk : Env → Prop := fun _ => False
  ct : Env → Prop := fun _ => False
structure LiftS (H : Hp) (E : DEnds) (De : Ends) : Prop where
  nx : ∀ σ' env' H', Keep X.K M H H' → StR X.K C H' σ' env' → E.nx env' → De.nx σ' H'
  rt : ∀ v d H', Keep X.K M H H' → Rp X.K C H' v d → E.rt d → De.rt v H'
  bk : ∀ σ' env' H', Keep X.K M H H' → StR X.K C H' σ' env' → E.bk env' → De.bk σ' H'
  ct : ∀ σ' env' H', Keep X.K M H H' → StR X.K C H' σ' env' → E.ct env' → De.ct σ' H'
def AS (t : TS) (env : Env) (E : DEnds) : Prop := ∀ σ H, Good X.K M H → StR X.K C H σ env → ∀ De, LiftS X C M H E De → t De σ H
/-- the readings themselves: whatever the syntax does -/
def wE (e : Expr) : TE := fun σ H Q => ∀ pins s, Inv X pins σ H s → wpAny (model X.prog X.w) X.A (eval e X.env) (EP X pins σ Q) X.xe s
def wT (e : Expr) : TT := fun σ H Q => ∀ pins s, Inv X pins σ H s → wpAny (model X.prog X.w) X.A (isTrue e X.env (eval e X.env)) (TP X pins σ Q) X.xe s
def wW (e : Expr) : TT := fun σ H Q => ∀ whole pins s, Inv X pins σ H s → wpAny (model X.prog X.w) X.A (isTrue e X.env whole) (TP X pins σ Q) X.xe s
def wA (es : List Expr) : TA := fun σ H Q => ∀ pos pins s, Inv X pins σ H s → wpAny (model X.prog X.w) X.A (spliced (backTo pos (starEach es X.env))) (AP X pins σ Q) X.xe s
def wS (st : Stmt) : TS := fun D σ H => ∀ pins s, Inv X pins σ H s → wpAny (model X.prog X.w) X.A (exec st X.env) (SP X pins D) X.xe s
def wSs (st : List Stmt) : TS := fun D σ H => ∀ pins s, Inv X pins σ H s → wpAny (model X.prog X.w) X.A (execs st X.env) (SP X pins D) X.xe s
abbrev DE (e : Expr) (env : Env) (Q : D → Prop) : Prop := AE X C M (wE X e) env Q
abbrev DT (e : Expr) (env : Env) (Q : Bool → Prop) : Prop := AT X C M (wT X e) env Q
abbrev DW (e : Expr) (env : Env) (Q : Bool → Prop) : Prop := AT X C M (wW X e) env Q
abbrev DA (es : List Expr) (env : Env) (Q : List D → Prop) : Prop := AA X C M (wA X es) env Q
abbrev DS (st : Stmt) (env : Env) (E : DEnds) : Prop := AS X C M (wS X st) env E
abbrev DSs (st : List Stmt) (env : Env) (E : DEnds) : Prop := AS X C M (wSs X st) env E
end
section
variable {X : Cx} {C : Addr} {M : Option Tp} {env : Env} {e a b c : Expr} {es : List Expr} {pos : Pos}
theorem pE : PE X e (wE X e) := ⟨fun pins s _ _ _ I h => h pins s I⟩
theorem pT : PT X e (wT X e) := ⟨fun pins s _ _ _ I h => h pins s I⟩
theorem pW : PW X e (wW X e) := ⟨fun wh pins s _ _ _ I h => h wh pins s I⟩
theorem pA : PA X es (wA X es) := ⟨fun pos pins s _ _ _ I h => h pos pins s I⟩
theorem pS {st : Stmt} : PS X st (wS X st) := ⟨fun pins s _ _ _ I h => h pins s I⟩
theorem pSs {st : List Stmt} : PSs X st (wSs X st) := ⟨fun pins s _ _ _ I h => h pins s I⟩
theorem de_of {t : TE} {Q : D → Prop} (h : PE X e t) (q : AE X C M t env Q) : DE X C M e env Q := fun σ H g s Q' l pins sh I => h.run pins sh σ H Q' I (q σ H g s Q' l)
theorem dt_of {t : TT} {Q : Bool → Prop} (h : PT X e t) (q : AT X C M t env Q) : DT X C M e env Q := fun σ H g s Q' l pins sh I => h.run pins sh σ H Q' I (q σ H g s Q' l)
theorem dw_of {t : TT} {Q : Bool → Prop} (h : PW X e t) (q : AT X C M t env Q) : DW X C M e env Q := fun σ H g s Q' l wh pins sh I => h.run wh pins sh σ H Q' I (q σ H g s Q' l)
theorem da_of {t : TA} {Q : List D → Prop} (h : PA X es t) (q : AA X C M t env Q) : DA X C M es env Q := fun σ H g s Q' l p pins sh I => h.run p pins sh σ H Q' I (q σ H g s Q' l)
theorem ds_of {st : Stmt} {t : TS} {E : DEnds} (h : PS X st t) (q : AS X C M t env E) : DS X C M st env E := fun σ H g s De l pins sh I => h.run pins sh σ H De I (q σ H g s De l)
theorem dss_of {st : List Stmt} {t : TS} {E : DEnds} (h : PSs X st t) (q : AS X C M t env E) : DSs X C M st env E := fun σ H g s De l pins sh I => h.run pins sh σ H De I (q σ H g s De l)
theorem AE.imp {t : TE} {Q R : D → Prop} (h : AE X C M t env Q) (i : ∀ d, Q d → R d) : AE X C M t env R := fun σ H g s Q' l => h σ H g s Q' fun v d H' k r q => l v d H' k r (i d q)
theorem AT.imp {t : TT} {Q R : Bool → Prop} (h : AT X C M t env Q) (i : ∀ d, Q d → R d) : AT X C M t env R := fun σ H g s Q' l => h σ H g s Q' fun d H' k q => l d H' k (i d q)
/-! ### names, constants, operators -/
theorem de_var {Q : D → Prop} {x : Str} {d : D} (i : Nat) (hN : X.N[i]? = some x) (he : env[i]? = some (some d)) (hv : Vis X.env.scope x) (q : Q d) (hd : (x == ("__debug__" : Str)) = false := by decide) (hcd : (x == ("__classdict__" : Str)) = false := by decide) : DE X C M (.Name x pos) env Q :=
  de_of (pe_var hN hv hd hcd) fun σ H g s Q' l => by
    obtain ⟨v, h1, h2⟩ := s.get i d he
    exact ⟨v, h1, l v d H (Keep.refl g) h2 q⟩
theorem de_int {Q : D → Prop} {i : Int} {j : Nat} (q : Q (.int i)) : DE X C M (.Constant (.int i) j pos) env Q := de_of pe_int fun σ H g s Q' l => l _ _ H (Keep.refl g) (.int i) q
theorem de_str {Q : D → Prop} {x : Str} {j : Nat} (q : Q (.str x)) : DE X C M (.Constant (.str x) j pos) env Q := de_of pe_str fun σ H g s Q' l => l _ _ H (Keep.refl g) (.str x) q
theorem de_bl {Q : D → Prop} {x : Bool} {j : Nat} (q : Q (.bl x)) : DE X C M (.Constant (.bool x) j pos) env Q := de_of pe_bl fun σ H g s Q' l => l _ _ H (Keep.refl g) (.bl x) q
theorem de_non {Q : D → Prop} {j : Nat} (q : Q .non) : DE X C M (.Constant .none j pos) env Q := de_of pe_non fun σ H g s Q' l => l _ _ H (Keep.refl g) .non q
theorem lift_at {Q : D → Prop} {Q' : VK} {H H1 : Hp} (l : Lift X C M H Q Q') (k : Keep X.K M H H1) : Lift X C M H1 Q Q' := fun v d H' k' r q => l v d H' (k.trans k') r q
theorem liftA_at {Q : List D → Prop} {Q' : List V → Hp → Prop} {H H1 : Hp} (l : LiftA X C M H Q Q') (k : Keep X.K M H H1) : LiftA X C M H1 Q Q' := fun v d H' k' r q => l v d H' (k.trans k') r q
theorem liftT_at {Q : Bool → Prop} {Q' : Bool → Hp → Prop} {H H1 : Hp} (l : LiftT X M H Q Q') (k : Keep X.K M H H1) : LiftT X M H1 Q Q' := fun d H' k' q => l d H' (k.trans k') q
theorem ae_op {r : R2} {ta tb : TE} {Q : D → Prop} (h : AE X C M ta env fun x => AE X C M tb env fun y => RA X C M r x y Q) : AE X C M (tOp r ta tb) env Q := fun σ H g s Q' l =>
  h σ H g s _ fun v x H1 k1 r1 h1 => h1 σ H1 k1.good (s.keep k1) _ fun u y H2 k2 r2 h2 => h2 v u H2 k2.good (k2.rp r1) r2 Q' (lift_at l (k1.trans k2))
theorem de_op {r : R2} {op : Operator} {Q : D → Prop} (ho : OpR X (binaryOp op) r) (h : DE X C M a env fun x => DE X C M b env fun y => RA X C M r x y Q) : DE X C M (.BinOp a op b pos) env Q := de_of (pe_op ho pE pE) (ae_op h)
theorem de_cmp {r : R2} {op : CmpOp} {Q : D → Prop} (ho : OpR X (compareOp op) r) (hm : behindInMarks op b = false) (h : DE X C M a env fun x => DE X C M b env fun y => RA X C M r x y Q) : DE X C M (.Compare a [op] [b] pos) env Q := de_of (pe_cmpR ho pE pE hm) (ae_op h)
/-- a value that is True or False, as a test -/
theorem dt_val {Q : Bool → Prop} (h : DE X C M e env fun x => ∃ k, x = .bl k ∧ Q k) (he : ∀ whole, isTrue e X.env whole = (do let v ← whole; standAt e.pos; holding [v] (truthy v)) := by intro _; rfl) : DT X C M e env Q :=
  dt_of (pt_truth pE he) fun σ H g s Q' l => h σ H g s _ fun v x H1 k1 r1 ⟨k, e, q⟩ => by subst e; cases r1; exact ⟨k, rfl, l k H1 k1 q⟩
theorem dt_cmp {r : R2} {op : CmpOp} {Q : Bool → Prop} (ho : OpR X (compareOp op) r) (hm : behindInMarks op b = false) (h : DE X C M a env fun x => DE X C M b env fun y => RA X C M r x y fun z => ∃ k, z = .bl k ∧ Q k) : DT X C M (.Compare a [op] [b] pos) env Q :=
  dt_of (pt_cmpR ho pE pE hm) fun σ H g s Q' l => ae_op h σ H g s _ fun v x H1 k1 r1 ⟨k, e, q⟩ => by subst e; cases r1; exact ⟨k, rfl, l k H1 k1 q⟩
theorem ra_I0 {g : Int → Int → Int} {x y : D} {Q : D → Prop} (h : ∃ i j, x = .int i ∧ y = .int j ∧ Q (.int (g i j))) : RA X C M (rI0 fun i j => .int (g i j)) x y Q := fun v u H gd r1 r2 Q' l => by
  obtain ⟨i, j, rfl, rfl, q⟩ := h
  cases r1; cases r2
  exact ⟨i, j, rfl, rfl, l _ _ H (Keep.refl gd) (.int _) q⟩
theorem ra_I {Cn : Int → Int → Prop} {g : Int → Int → Int} {x y : D} {Q : D → Prop} (h : ∃ i j, x = .int i ∧ y = .int j ∧ Cn i j ∧ Q (.int (g i j))) : RA X C M (rI Cn fun i j => .int (g i j)) x y Q := fun v u H gd r1 r2 Q' l => by
  obtain ⟨i, j, rfl, rfl, c, q⟩ := h
  cases r1; cases r2
  exact ⟨i, j, rfl, rfl, c, l _ _ H (Keep.refl gd) (.int _) q⟩
theorem ra_B0 {g : Int → Int → Bool} {x y : D} {Q : D → Prop} (h : ∃ i j, x = .int i ∧ y = .int j ∧ Q (.bl (g i j))) : RA X C M (rI0 fun i j => .bl (g i j)) x y Q := fun v u H gd r1 r2 Q' l => by
  obtain ⟨i, j, rfl, rfl, q⟩ := h
  cases r1; cases r2
  exact ⟨i, j, rfl, rfl, l _ _ H (Keep.refl gd) (.bl _) q⟩
/-- == of flat data -/
def eqS : D → D → Option Bool
  | .non, .non => some true
  | .non, .int _ => some false
  | .int _, .non => some false
  | .int i, .int j => some (decide (i = j))
  | .str i, .str j => some (decide (i = j))
  | .bl i, .bl j => some (decide (i = j))
  | _, _ => none
theorem scal_of {H : Hp} {v u : V} {x y : D} {k : Bool} (r1 : Rp X.K C H v x) (r2 : Rp X.K C H u y) (h : eqS x y = some k) : scal v u = true ∧ decide (v = u) = k := by
  cases r1 <;> cases r2 <;> simp only [eqS] at h <;> first | cases h | skip
  all_goals simp_all [scal]
theorem ra_eq {x y : D} {Q : D → Prop} (h : ∃ k, eqS x y = some k ∧ Q (.bl k)) : RA X C M rEq x y Q := fun v u H gd r1 r2 Q' l => by
  obtain ⟨k, e, q⟩ := h
  obtain ⟨h1, h2⟩ := scal_of r1 r2 e
  exact ⟨h1, l _ _ H (Keep.refl gd) (by rw [h2]; exact .bl k) q⟩
theorem ra_ne {x y : D} {Q : D → Prop} (h : ∃ k, eqS x y = some k ∧ Q (.bl (!k))) : RA X C M rNe x y Q := fun v u H gd r1 r2 Q' l => by
  obtain ⟨k, e, q⟩ := h
  obtain ⟨h1, h2⟩ := scal_of r1 r2 e
  exact ⟨h1, l _ _ H (Keep.refl gd) (by rw [h2]; exact .bl _) q⟩
end
end WK
set_option maxRecDepth 100000
set_option maxHeartbeats 4000000
namespace WK
open PySem PySem.Spec PyProof.Rows L2
section
variable {X : Cx} {C : Addr} {M : Option Tp} {env : Env} {e a b c d f : Expr} {es : List Expr} {pos p p2 : Pos}
/-! ### arguments, displays -/
theorem da_nil {Q : List D → Prop} (q : Q []) : DA X C M [] env Q := da_of pa_nil fun σ H g s Q' l => l [] [] H (Keep.refl g) .nil q
theorem da_cons {Q : List D → Prop} (h : DE X C M e env fun x => DA X C M es env fun xs => Q (x :: xs)) (hs : starEach (e :: es) X.env = (false, eval e X.env) :: starEach es X.env := by rfl) : DA X C M (e :: es) env Q :=
  da_of (pa_cons pE pA hs) fun σ H g s Q' l => h σ H g s _ fun v x H1 k1 r1 h1 => h1 σ H1 k1.good (s.keep k1) _ fun vs xs H2 k2 r2 h2 => l _ _ H2 (k1.trans k2) (.cons (k2.rp r1) r2) h2
theorem le_line {n : Nat} (h : n ≤ 100000) : n ≤ sizeLine := Nat.le_trans h (by decide)
theorem lt_line {n : Nat} (h : n < 100000) : n < sizeLine := Nat.lt_of_lt_of_le h (by decide)
theorem de_tup {Q : D → Prop} {x1} (h : DA X C M es env fun ds => ds.length ≤ 100000 ∧ Q (.tup ds)) : DE X C M (.Tuple es x1 pos) env Q :=
  de_of (pe_tup pA) fun σ H g s Q' l => h σ H g s _ fun vs ds H1 k1 r1 ⟨hl, q⟩ => ⟨le_line (by rw [r1.length]; exact hl), fun p np =>
    l _ _ _ (k1.trans (Keep.new k1.good np)) (.tup (.inl (.inl upd_same)) ((Keep.new k1.good np).rps r1)) q⟩
/-- a list written out, an item of it -/
theorem de_disp {Q : D → Prop} (h : DA X C M es env fun ds => ds.length ≤ 100000 ∧ DE X C M b env fun y => ∃ (n : Int) (x : D), y = .int n ∧ 0 ≤ n ∧ ds[n.toNat]? = some x ∧ Q x) (hs : PlainIx b := by exact fun _ _ => rfl) : DE X C M (.Subscript (.List es p) b pos) env Q :=
  de_of (pe_ix ix_list (pe_lst pA) pE hs) fun σ H g s Q' l => h σ H g s _ fun vs ds H1 k1 r1 ⟨hl, q⟩ => ⟨le_line (by rw [r1.length]; exact hl), fun p np => by
    have k2 := Keep.new (o := .lst vs) k1.good np
    refine q σ _ k2.good (s.keep (k1.trans k2)) _ fun u y H3 k3 r3 ⟨n, x, e, h0, hx, q⟩ => ?_
    subst e
    cases r3
    have hp := Keep.mine k1.good np k3 (upd_same (H := H1) (a := p) (o := .lst vs))
    obtain ⟨v, h1, h2⟩ := (k3.rps (k2.rps r1)).get hx
    exact ⟨p, vs, n, v, rfl, rfl, .inl (.inl hp), at_of (Int.toNat_of_nonneg h0).symm h1, l _ _ H3 ((k1.trans k2).trans k3) h2 q⟩⟩
/-! ### items -/
def itemD : D → Int → Option D
  | .tup ds, i => if 0 ≤ i then ds[i.toNat]? else none
  | .ilst ns, i => if 0 ≤ i then (ns[i.toNat]?).map D.int else none
  | .slst ss, i => if 0 ≤ i then (ss[i.toNat]?).map D.str else none
  | _, _ => none
theorem ra_item {x y : D} {Q : D → Prop} (h : ∃ i z, y = .int i ∧ itemD x i = some z ∧ Q z) : RA X C M (fun x y H Q => rIxL X.K x y H Q ∨ rIxT X.K x y H Q) x y Q := fun v u H gd r1 r2 Q' l => by
  obtain ⟨i, z, rfl, h, q⟩ := h
  cases r2
  unfold itemD at h
  cases r1 with
  | tup hs hr =>
    simp only at h
    split at h
    · obtain ⟨w, h1, h2⟩ := hr.get h
      exact .inr ⟨_, _, i, w, rfl, rfl, hs, at_of (Int.toNat_of_nonneg (by assumption)).symm h1, l _ _ H (Keep.refl gd) h2 q⟩
    · cases h
  | ilst hs =>
    simp only at h
    split at h
    · rw [Option.map_eq_some_iff] at h
      obtain ⟨n, h1, rfl⟩ := h
      exact .inl ⟨_, _, i, .int n, rfl, rfl, hs, at_of (Int.toNat_of_nonneg (by assumption)).symm (by rw [List.getElem?_map, h1]; rfl), l _ _ H (Keep.refl gd) (.int n) q⟩
    · cases h
  | slst hs =>
    simp only at h
    split at h
    · rw [Option.map_eq_some_iff] at h
      obtain ⟨n, h1, rfl⟩ := h
      exact .inl ⟨_, _, i, .str n, rfl, rfl, hs, at_of (Int.toNat_of_nonneg (by assumption)).symm (by rw [List.getElem?_map, h1]; rfl), l _ _ H (Keep.refl gd) (.str n) q⟩
    · cases h
  | _ => cases h
theorem de_ix {Q : D → Prop} (h : DE X C M a env fun x => DE X C M b env fun y => ∃ i z, y = .int i ∧ itemD x i = some z ∧ Q z) (hs : PlainIx b := by exact fun _ _ => rfl) : DE X C M (.Subscript a b pos) env Q :=
  de_of (pe_ix (IxR.or ix_list ix_tup) pE pE hs) (ae_op (h.imp fun x hx => hx.imp fun y hy => ra_item hy))
/-! ### slices, + -/
def cutD {α : Type} (ds : List α) (lo hi : Option Int) : List α := (ds.drop (HT.sIx ds.length 0 lo)).take (HT.sIx ds.length ds.length hi - HT.sIx ds.length 0 lo)
def sliceD : D → Option Int → Option Int → Option D
  | .tup ds, lo, hi => some (.tup (cutD ds lo hi))
  | .blob n, lo, hi => some (.blob (HT.sIx n n hi - HT.sIx n 0 lo))
  | _, _, _ => none
def AO (X : Cx) (C : Addr) (M : Option Tp) (t : TO) (env : Env) (Q : Option Int → Prop) : Prop := ∀ σ H, Good X.K M H → StR X.K C H σ env → ∀ Q' : Option Int → Hp → Prop, (∀ o H', Keep X.K M H H' → Q o → Q' o H') → t σ H Q'
theorem cut_len {α β : Type} {xs : List α} {ys : List β} (h : xs.length = ys.length) (lo hi : Option Int) : (cutD xs lo hi).length = HT.sIx ys.length ys.length hi - HT.sIx ys.length 0 lo := by
  unfold cutD
  rw [List.length_take, List.length_drop, h]
  have h1 := HT.sIx_le ys.length ys.length (Nat.le_refl _) hi
  omega
theorem ae_sl {ta : TE} {tl th : TO} {Q : D → Prop} (h : AE X C M ta env fun x => AO X C M tl env fun l => AO X C M th env fun u => ∃ z, sliceD x l u = some z ∧ Q z) : AE X C M (tSl (rSlA X.K) ta tl th) env Q := fun σ H g s Q' l =>
  h σ H g s _ fun v x H1 k1 r1 h1 => h1 σ H1 k1.good (s.keep k1) _ fun lo H2 k2 h2 => h2 σ H2 k2.good (s.keep (k1.trans k2)) _ fun hi H3 k3 ⟨z, e, q⟩ => by
    have k := (k1.trans k2).trans k3
    have r3 := (k2.trans k3).rp r1
    cases r3 with
    | @tup a' xs ds hs hr =>
      simp only [sliceD, Option.some.injEq] at e
      subst e
      have hl := hr.length
      refine ⟨a', xs, rfl, hs, fun hw => ?_, fun hw p np => ?_⟩
      · have e1 : cutD ds lo hi = ds := by
          unfold cutD
          rw [← hl, hw.1, hw.2, List.drop_zero, Nat.sub_zero, hl, List.take_length]
        exact l _ _ H3 k (by rw [e1]; exact .tup hs hr) q
      · have k4 := Keep.new (o := .tup (cutV xs lo hi)) k.good np
        refine l _ _ _ (k.trans k4) (.tup (.inl (.inl upd_same)) ?_) q
        have e2 : cutD ds lo hi = (ds.drop (HT.sIx xs.length 0 lo)).take (HT.sIx xs.length xs.length hi - HT.sIx xs.length 0 lo) := by unfold cutD; rw [hl]
        rw [e2]
        exact ((k4.rps hr).drop _).take _
    | @blob a' xs n hs hn =>
      simp only [sliceD, Option.some.injEq] at e
      subst e
      subst hn
      refine ⟨a', xs, rfl, hs, fun hw => ?_, fun hw p np => ?_⟩
      · exact l _ _ H3 k (.blob hs (by rw [hw.1, hw.2]; rfl)) q
      · have k4 := Keep.new (o := .tup (cutV xs lo hi)) k.good np
        exact l _ _ _ (k.trans k4) (.blob (.inl (.inl upd_same)) (cut_len (xs := xs) (ys := xs) rfl lo hi)) q
    | _ => cases e
theorem ao_none {Q : Option Int → Prop} (q : Q none) : AO X C M tNoPart env Q := fun σ H g s Q' l => l none H (Keep.refl g) q
theorem ao_some {Q : Option Int → Prop} (h : DE X C M a env fun x => ∃ i, x = .int i ∧ Q (some i)) : AO X C M (tPart (wE X a)) env Q := fun σ H g s Q' l => h σ H g s _ fun v x H1 k1 r1 ⟨i, e, q⟩ => by
  subst e; cases r1
  exact ⟨i, rfl, l _ H1 k1 q⟩
/-- a[:b] -/
theorem de_slHi {Q : D → Prop} (h : DE X C M a env fun x => DE X C M b env fun y => ∃ i z, y = .int i ∧ sliceD x none (some i) = some z ∧ Q z) : DE X C M (.Subscript a (.Slice none (some b) none p2) pos) env Q :=
  de_of (pe_slice sl_tupA pE po_none (po_some pE)) (ae_sl (h.imp fun x hx => ao_none (ao_some (hx.imp fun y ⟨i, z, e, hz, q⟩ => ⟨i, e, z, hz, q⟩))))
/-- a[b:] -/
theorem de_slLo {Q : D → Prop} (h : DE X C M a env fun x => DE X C M b env fun y => ∃ i z, y = .int i ∧ sliceD x (some i) none = some z ∧ Q z) : DE X C M (.Subscript a (.Slice (some b) none none p2) pos) env Q :=
  de_of (pe_slice sl_tupA pE (po_some pE) po_none) (ae_sl (h.imp fun x hx => ao_some (hx.imp fun y ⟨i, z, e, hz, q⟩ => ⟨i, e, ao_none ⟨z, hz, q⟩⟩)))
/-- a[b:c] -/
theorem de_sl2 {Q : D → Prop} (h : DE X C M a env fun x => DE X C M b env fun y => ∃ i, y = .int i ∧ DE X C M c env fun w => ∃ j z, w = .int j ∧ sliceD x (some i) (some j) = some z ∧ Q z) : DE X C M (.Subscript a (.Slice (some b) (some c) none p2) pos) env Q :=
  de_of (pe_slice sl_tupA pE (po_some pE) (po_some pE)) (ae_sl (h.imp fun x hx => ao_some (hx.imp fun y ⟨i, e, h⟩ => ⟨i, e, ao_some (h.imp fun w ⟨j, z, e, hz, q⟩ => ⟨j, e, z, hz, q⟩)⟩)))
def catD : D → D → Option D
  | .tup a, .tup b => if a.length + b.length ≤ 100000 then some (.tup (a ++ b)) else none
  | .blob a, .blob b => if a + b ≤ 100000 then some (.blob (a + b)) else none
  | _, _ => none
theorem ra_cat {x y : D} {Q : D → Prop} (h : ∃ z, catD x y = some z ∧ Q z) : RA X C M (rCatA X.K) x y Q := fun v u H gd r1 r2 Q' l => by
  obtain ⟨z, h, q⟩ := h
  have key : ∀ (a b : Addr) (xs ys : List V), v = .ref a → u = .ref b → SqT X.K H a xs → SqT X.K H b ys → xs.length + ys.length ≤ 100000 →
      (∀ (p : Addr) (H' : Hp), Keep X.K M H H' → SqT X.K H' p (xs ++ ys) → Rp X.K C H' (.ref p) z) → rCatA X.K v u H Q' := fun a b xs ys e1 e2 ha hb hz hr => by
    refine ⟨a, b, xs, ys, e1, e2, ha, hb, le_line hz, fun hx => ?_, fun _ hy => ?_, fun _ _ p np => ?_⟩
    · subst hx; exact l _ _ H (Keep.refl gd) (hr b H (Keep.refl gd) hb) q
    · subst hy; exact l _ _ H (Keep.refl gd) (hr a H (Keep.refl gd) (by rw [List.append_nil]; exact ha)) q
    · exact l _ _ _ (Keep.new gd np) (hr p _ (Keep.new gd np) (.inl (.inl upd_same))) q
  cases r1 <;> cases r2 <;> simp only [catD] at h <;> first | cases h | skip
  · rename_i a xs ds hs hr b ys es hs2 hr2
    split at h
    · cases h
      exact key a b xs ys rfl rfl hs hs2 (by rw [hr.length, hr2.length]; assumption) fun p H' k hp => .tup hp ((k.rps hr).append (k.rps hr2))
    · cases h
  · rename_i a xs n hs hn b ys m hs2 hm
    split at h
    · cases h
      exact key a b xs ys rfl rfl hs hs2 (by rw [hn, hm]; assumption) fun p H' k hp => .blob hp (by rw [List.length_append, hn, hm])
    · cases h
theorem de_cat {Q : D → Prop} (h : DE X C M a env fun x => DE X C M b env fun y => ∃ z, catD x y = some z ∧ Q z) : DE X C M (.BinOp a .Add b pos) env Q := de_op op_catA (h.imp fun x hx => hx.imp fun y hy => ra_cat hy)
theorem de_add {Q : D → Prop} (h : DE X C M a env fun x => DE X C M b env fun y => ∃ i j, x = .int i ∧ y = .int j ∧ Q (.int (i + j))) : DE X C M (.BinOp a .Add b pos) env Q := de_op op_add (h.imp fun x hx => hx.imp fun y hy => ra_I0 hy)
theorem de_sub {Q : D → Prop} (h : DE X C M a env fun x => DE X C M b env fun y => ∃ i j, x = .int i ∧ y = .int j ∧ Q (.int (i - j))) : DE X C M (.BinOp a .Sub b pos) env Q := de_op op_sub (h.imp fun x hx => hx.imp fun y hy => ra_I0 hy)
theorem de_mul {Q : D → Prop} (h : DE X C M a env fun x => DE X C M b env fun y => ∃ i j, x = .int i ∧ y = .int j ∧ CMul i j ∧ Q (.int (i * j))) : DE X C M (.BinOp a .Mult b pos) env Q := de_op op_mul (h.imp fun x hx => hx.imp fun y hy => ra_I hy)
theorem de_mod {Q : D → Prop} (h : DE X C M a env fun x => DE X C M b env fun y => ∃ i j, x = .int i ∧ y = .int j ∧ 0 < j ∧ Q (.int (i % j))) : DE X C M (.BinOp a .Mod b pos) env Q := de_op op_mod (h.imp fun x hx => hx.imp fun y hy => ra_I hy)
theorem de_fdiv {Q : D → Prop} (h : DE X C M a env fun x => DE X C M b env fun y => ∃ i j, x = .int i ∧ y = .int j ∧ CDiv i j ∧ Q (.int (i / j))) : DE X C M (.BinOp a .FloorDiv b pos) env Q := de_op op_fdiv (h.imp fun x hx => hx.imp fun y hy => ra_I hy)
theorem de_pow {Q : D → Prop} (h : DE X C M a env fun x => DE X C M b env fun y => ∃ i j, x = .int i ∧ y = .int j ∧ CPow i j ∧ Q (.int (i ^ j.toNat))) : DE X C M (.BinOp a .Pow b pos) env Q := de_op op_pow (h.imp fun x hx => hx.imp fun y hy => ra_I hy)
/-! ### comparisons -/
theorem de_eq {Q : D → Prop} (h : DE X C M a env fun x => DE X C M b env fun y => ∃ k, eqS x y = some k ∧ Q (.bl k)) : DE X C M (.Compare a [.Eq] [b] pos) env Q := de_cmp op_eq (nomark _) (h.imp fun x hx => hx.imp fun y hy => ra_eq hy)
theorem dt_eq {Q : Bool → Prop} (h : DE X C M a env fun x => DE X C M b env fun y => ∃ k, eqS x y = some k ∧ Q k) : DT X C M (.Compare a [.Eq] [b] pos) env Q := dt_cmp op_eq (nomark _) (h.imp fun x hx => hx.imp fun y ⟨k, e, q⟩ => ra_eq ⟨k, e, k, rfl, q⟩)
theorem dt_ne {Q : Bool → Prop} (h : DE X C M a env fun x => DE X C M b env fun y => ∃ k, eqS x y = some k ∧ Q (!k)) : DT X C M (.Compare a [.NotEq] [b] pos) env Q := dt_cmp op_ne (nomark _) (h.imp fun x hx => hx.imp fun y ⟨k, e, q⟩ => ra_ne ⟨k, e, _, rfl, q⟩)
theorem dt_lt {Q : Bool → Prop} (h : DE X C M a env fun x => DE X C M b env fun y => ∃ i j, x = .int i ∧ y = .int j ∧ Q (decide (i < j))) : DT X C M (.Compare a [.Lt] [b] pos) env Q := dt_cmp op_lt (nomark _) (h.imp fun x hx => hx.imp fun y ⟨i, j, e1, e2, q⟩ => ra_B0 ⟨i, j, e1, e2, _, rfl, q⟩)
theorem dt_ge {Q : Bool → Prop} (h : DE X C M a env fun x => DE X C M b env fun y => ∃ i j, x = .int i ∧ y = .int j ∧ Q (decide (j ≤ i))) : DT X C M (.Compare a [.GtE] [b] pos) env Q := dt_cmp op_ge (nomark _) (h.imp fun x hx => hx.imp fun y ⟨i, j, e1, e2, q⟩ => ra_B0 ⟨i, j, e1, e2, _, rfl, q⟩)
theorem dt_gt {Q : Bool → Prop} (h : DE X C M a env fun x => DE X C M b env fun y => ∃ i j, x = .int i ∧ y = .int j ∧ Q (decide (j < i))) : DT X C M (.Compare a [.Gt] [b] pos) env Q := dt_cmp op_gt (nomark _) (h.imp fun x hx => hx.imp fun y ⟨i, j, e1, e2, q⟩ => ra_B0 ⟨i, j, e1, e2, _, rfl, q⟩)
def isNon : D → Bool
  | .non => true
  | _ => false
theorem isNon_of {H : Hp} {v : V} {x : D} (r : Rp X.K C H v x) : decide (v = .non) = isNon x := by cases r <;> simp [isNon]
theorem ra_isN {x y : D} {Q : D → Prop} (h : y = .non ∧ Q (.bl (isNon x))) : RA X C M (fun x y H Q => y = .non ∧ Q (.bl (decide (x = .non))) H) x y Q := fun v u H gd r1 r2 Q' l => by
  obtain ⟨rfl, q⟩ := h
  cases r2
  exact ⟨rfl, l _ _ H (Keep.refl gd) (by rw [isNon_of r1]; exact .bl _) q⟩
theorem ra_notN {x y : D} {Q : D → Prop} (h : y = .non ∧ Q (.bl (!isNon x))) : RA X C M (fun x y H Q => y = .non ∧ Q (.bl (!decide (x = .non))) H) x y Q := fun v u H gd r1 r2 Q' l => by
  obtain ⟨rfl, q⟩ := h
  cases r2
  exact ⟨rfl, l _ _ H (Keep.refl gd) (by rw [isNon_of r1]; exact .bl _) q⟩
theorem dt_isN {Q : Bool → Prop} {j : Nat} (h : DE X C M a env fun x => Q (isNon x)) : DT X C M (.Compare a [.Is] [.Constant .none j p] pos) env Q := dt_cmp op_isN (nomark _) (h.imp fun x hx => de_non (ra_isN ⟨rfl, _, rfl, hx⟩))
theorem dt_notN {Q : Bool → Prop} {j : Nat} (h : DE X C M a env fun x => Q (!isNon x)) : DT X C M (.Compare a [.IsNot] [.Constant .none j p] pos) env Q := dt_cmp op_notN (nomark _) (h.imp fun x hx => de_non (ra_notN ⟨rfl, _, rfl, hx⟩))
theorem de_isN {Q : D → Prop} {j : Nat} (h : DE X C M a env fun x => Q (.bl (isNon x))) : DE X C M (.Compare a [.Is] [.Constant .none j p] pos) env Q := de_cmp op_isN (nomark _) (h.imp fun x hx => de_non (ra_isN ⟨rfl, hx⟩))
/-- x in (a tuple, a list of ints or texts) -/
def inD : D → D → Option Bool
  | .int i, .ilst ns => some (ns.contains i)
  | .str i, .slst ss => some (ss.contains i)
  | .int i, .tup ds => ds.foldr (fun d k => match d, k with | .int j, some k => some (j == i || k) | _, _ => none) (some false)
  | .str i, .tup ds => ds.foldr (fun d k => match d, k with | .str j, some k => some (j == i || k) | _, _ => none) (some false)
  | _, _ => none
theorem in_tupI {K : PySem.W.Frag} {H : Hp} {i : Int} : ∀ {xs : List V} {ds : List D} {k : Bool}, RpAll K C H xs ds → ds.foldr (fun d k => match d, k with | .int j, some k => some (j == i || k) | _, _ => none) (some false) = some k → xs.all flatV = true ∧ inV (.int i) xs = k
  | _, _, _, .nil, h => by simp at h; subst h; exact ⟨rfl, rfl⟩
  | _, _, k, .cons (d := d) (ds := ds) h1 h2, h => by
    rw [List.foldr_cons] at h
    cases e : ds.foldr (fun d k => match d, k with | .int j, some k => some (j == i || k) | _, _ => none) (some false) with
    | none => rw [e] at h; cases d <;> cases h
    | some k' =>
      rw [e] at h
      obtain ⟨f1, f2⟩ := in_tupI h2 e
      cases h1 <;> first | cases h | skip
      refine ⟨by simp [flatV, f1], ?_⟩
      show (eqV (.int _) (.int i) || inV (.int i) _) = _
      rw [f2]; rfl
theorem in_tupS {K : PySem.W.Frag} {H : Hp} {i : Str} : ∀ {xs : List V} {ds : List D} {k : Bool}, RpAll K C H xs ds → ds.foldr (fun d k => match d, k with | .str j, some k => some (j == i || k) | _, _ => none) (some false) = some k → xs.all flatV = true ∧ inV (.str i) xs = k
  | _, _, _, .nil, h => by simp at h; subst h; exact ⟨rfl, rfl⟩
  | _, _, k, .cons (d := d) (ds := ds) h1 h2, h => by
    rw [List.foldr_cons] at h
    cases e : ds.foldr (fun d k => match d, k with | .str j, some k => some (j == i || k) | _, _ => none) (some false) with
    | none => rw [e] at h; cases d <;> cases h
    | some k' =>
      rw [e] at h
      obtain ⟨f1, f2⟩ := in_tupS h2 e
      cases h1 <;> first | cases h | skip
      refine ⟨by simp [flatV, f1], ?_⟩
      show (eqV (.str _) (.str i) || inV (.str i) _) = _
      rw [f2]; rfl
theorem in_ints {i : Int} : ∀ ns : List Int, (ns.map V.int).all flatV = true ∧ inV (.int i) (ns.map V.int) = ns.contains i
  | [] => ⟨rfl, rfl⟩
  | n :: ns => by
    obtain ⟨h1, h2⟩ := in_ints (i := i) ns
    refine ⟨by simp [flatV], ?_⟩
    show (eqV (.int n) (.int i) || inV (.int i) _) = _
    rw [h2]
    show ((n == i) || ns.contains i) = (n :: ns).contains i
    rw [List.contains_cons]
    congr 1
    exact Bool.beq_comm
theorem in_strs {i : Str} : ∀ ns : List Str, (ns.map V.str).all flatV = true ∧ inV (.str i) (ns.map V.str) = ns.contains i
  | [] => ⟨rfl, rfl⟩
  | n :: ns => by
    obtain ⟨h1, h2⟩ := in_strs (i := i) ns
    refine ⟨by simp [flatV], ?_⟩
    show (eqV (.str n) (.str i) || inV (.str i) _) = _
    rw [h2]
    show ((n == i) || ns.contains i) = (n :: ns).contains i
    rw [List.contains_cons]
    congr 1
    exact Bool.beq_comm
theorem ra_in {neg : Bool} {x y : D} {Q : D → Prop} (h : ∃ k, inD x y = some k ∧ Q (.bl (if neg then !k else k))) : RA X C M (rIn X.K neg) x y Q := fun v u H gd r1 r2 Q' l => by
  obtain ⟨k, h, q⟩ := h
  cases r1 <;> cases r2 <;> simp only [inD] at h <;> first | cases h | skip
  · rename_i i a xs ds hs hr
    obtain ⟨f1, f2⟩ := in_tupI hr h
    exact ⟨a, xs, rfl, .inr hs, rfl, f1, l _ _ H (Keep.refl gd) (by rw [f2]; exact .bl _) q⟩
  · rename_i i a ns hs
    obtain ⟨f1, f2⟩ := in_ints (i := i) ns
    exact ⟨a, _, rfl, .inl hs, rfl, f1, l _ _ H (Keep.refl gd) (by rw [f2]; exact .bl _) q⟩
  · rename_i i a xs ds hs hr
    obtain ⟨f1, f2⟩ := in_tupS hr h
    exact ⟨a, xs, rfl, .inr hs, rfl, f1, l _ _ H (Keep.refl gd) (by rw [f2]; exact .bl _) q⟩
  · rename_i i a ns hs
    obtain ⟨f1, f2⟩ := in_strs (i := i) ns
    exact ⟨a, _, rfl, .inl hs, rfl, f1, l _ _ H (Keep.refl gd) (by rw [f2]; exact .bl _) q⟩
theorem dt_in {Q : Bool → Prop} (h : DE X C M a env fun x => DE X C M b env fun y => ∃ k, inD x y = some k ∧ Q k) (hm : behindInMarks .In b = false := by rfl) : DT X C M (.Compare a [.In] [b] pos) env Q := dt_cmp op_in_seq hm (h.imp fun x hx => hx.imp fun y ⟨k, e, q⟩ => ra_in ⟨k, e, k, rfl, q⟩)
theorem dt_notIn {Q : Bool → Prop} (h : DE X C M a env fun x => DE X C M b env fun y => ∃ k, inD x y = some k ∧ Q (!k)) (hm : behindInMarks .NotIn b = false := by rfl) : DT X C M (.Compare a [.NotIn] [b] pos) env Q := dt_cmp op_notIn_seq hm (h.imp fun x hx => hx.imp fun y ⟨k, e, q⟩ => ra_in ⟨k, e, _, rfl, q⟩)
theorem de_notIn {Q : D → Prop} (h : DE X C M a env fun x => DE X C M b env fun y => ∃ k, inD x y = some k ∧ Q (.bl (!k))) (hm : behindInMarks .NotIn b = false := by rfl) : DE X C M (.Compare a [.NotIn] [b] pos) env Q := de_cmp op_notIn_seq hm (h.imp fun x hx => hx.imp fun y ⟨k, e, q⟩ => ra_in ⟨k, e, q⟩)
/-! ### and, or, not, truth, if -/
theorem dw_one {Q : Bool → Prop} {op : BoolOp} (h : DT X C M a env Q) (hop : op = .And ∨ op = .Or) : DW X C M (.BoolOp op [a] pos) env Q := by
  rcases hop with rfl | rfl
  · exact dw_of (pw_and1 pT) h
  · exact dw_of (pw_or1 pT) h
theorem dw_and {Q : Bool → Prop} {rest : List Expr} (h : DT X C M a env fun k => if k = true then DW X C M (.BoolOp .And (b :: rest) pos) env Q else Q false) : DW X C M (.BoolOp .And (a :: b :: rest) pos) env Q :=
  dw_of (pw_and pT pW) fun σ H g s Q' l => h σ H g s _ fun k H1 k1 h1 => by
    cases k with
    | true => exact h1 σ H1 k1.good (s.keep k1) Q' (liftT_at l k1)
    | false => exact l _ H1 k1 h1
theorem dw_or {Q : Bool → Prop} {rest : List Expr} (h : DT X C M a env fun k => if k = true then Q true else DW X C M (.BoolOp .Or (b :: rest) pos) env Q) : DW X C M (.BoolOp .Or (a :: b :: rest) pos) env Q :=
  dw_of (pw_or pT pW) fun σ H g s Q' l => h σ H g s _ fun k H1 k1 h1 => by
    cases k with
    | true => exact l _ H1 k1 h1
    | false => exact h1 σ H1 k1.good (s.keep k1) Q' (liftT_at l k1)
theorem dt_w {Q : Bool → Prop} (h : DW X C M e env Q) : DT X C M e env Q := dt_of (PW.pt pW) h
theorem dt_not {Q : Bool → Prop} (h : DT X C M a env fun k => Q (!k)) : DT X C M (.UnaryOp .Not a pos) env Q := dt_of (pt_not pT) fun σ H g s Q' l => h σ H g s _ fun k H1 k1 h1 => l _ H1 k1 h1
def truD : D → Option Bool
  | .non => some false
  | .bl b => some b
  | .tup ds => some (!ds.isEmpty)
  | .ilst ns => some (!ns.isEmpty)
  | .slst ss => some (!ss.isEmpty)
  | _ => none
theorem tru_of {H : Hp} {v : V} {x : D} {k : Bool} (r : Rp X.K C H v x) (h : truD x = some k) : TruV X.K v H k := by
  cases r with
  | non => cases h; rfl
  | bl b => cases h; rfl
  | tup hs hr =>
    cases h
    refine .inr (.inl ⟨_, hs, ?_⟩)
    cases hr <;> rfl
  | ilst hs =>
    cases h
    refine .inl ⟨_, hs, ?_⟩
    rename_i ns
    cases ns <;> rfl
  | slst hs =>
    cases h
    refine .inl ⟨_, hs, ?_⟩
    rename_i ns
    cases ns <;> rfl
  | _ => cases h
theorem dt_truth {Q : Bool → Prop} (h : DE X C M e env fun x => ∃ k, truD x = some k ∧ Q k) (he : ∀ whole, isTrue e X.env whole = (do let v ← whole; standAt e.pos; holding [v] (truthy v)) := by intro _; rfl) : DT X C M e env Q :=
  dt_of (pt_truth pE he) fun σ H g s Q' l => h σ H g s _ fun v x H1 k1 r1 ⟨k, e, q⟩ => ⟨k, tru_of r1 e, l k H1 k1 q⟩
theorem de_ifExp {Q : D → Prop} (h : DT X C M c env fun k => if k = true then DE X C M a env Q else DE X C M b env Q) : DE X C M (.IfExp c a b pos) env Q :=
  de_of (pe_ifExp pT pE pE) fun σ H g s Q' l => h σ H g s _ fun k H1 k1 h1 => by
    cases k with
    | true => exact h1 σ H1 k1.good (s.keep k1) Q' (lift_at l k1)
    | false => exact h1 σ H1 k1.good (s.keep k1) Q' (lift_at l k1)
theorem de_or2 {Q : D → Prop} {p3 : Pos} (h : DE X C M a env fun x => ∃ k, x = .bl k ∧ if k = true then Q (.bl true) else DE X C M b env Q) : DE X C M (.BoolOp .Or [a, b] pos) env Q :=
  de_of (pe_or pE (pe_one pE)) fun σ H g s Q' l => h σ H g s _ fun v x H1 k1 r1 ⟨k, e, h1⟩ => by
    subst e; cases r1
    refine ⟨k, rfl, ?_⟩
    cases k with
    | true => exact l _ _ H1 k1 (.bl true) h1
    | false => exact h1 σ H1 k1.good (s.keep k1) Q' (lift_at l k1)
theorem de_not {Q : D → Prop} (h : DE X C M a env fun x => ∃ k, x = .bl k ∧ Q (.bl (!k))) : DE X C M (.UnaryOp .Not a pos) env Q :=
  de_of (pe_not pE) fun σ H g s Q' l => h σ H g s _ fun v x H1 k1 r1 ⟨k, e, h1⟩ => by
    subst e; cases r1
    exact ⟨k, rfl, l _ _ H1 k1 (.bl _) h1⟩
/-- a <= b < c, ints -/
theorem dt_chain {Q : Bool → Prop} (h : DE X C M a env fun x => DE X C M b env fun y => ∃ i j, x = .int i ∧ y = .int j ∧ if i ≤ j then DE X C M c env (fun z => ∃ k, z = .int k ∧ Q (decide (j < k))) else Q false) (hm : lastMarks [.LtE, .Lt] [b, c] = false := by with_unfolding_all rfl) : DT X C M (.Compare a [.LtE, .Lt] [b, c] pos) env Q :=
  dt_of (pt_chain op_le op_lt pE pE pE hm) fun σ H g s Q' l => h σ H g s _ fun v x H1 k1 r1 h1 => h1 σ H1 k1.good (s.keep k1) _ fun u y H2 k2 r2 ⟨i, j, e1, e2, h2⟩ => by
    subst e1; subst e2; cases r1; cases r2
    refine ⟨i, j, rfl, rfl, decide (i ≤ j), rfl, ?_⟩
    by_cases hij : i ≤ j
    · rw [if_pos hij] at h2
      rw [decide_eq_true hij, if_pos rfl]
      exact h2 σ H2 k2.good (s.keep (k1.trans k2)) _ fun w z H3 k3 r3 ⟨k, e, q⟩ => by
        subst e; cases r3
        exact ⟨j, k, rfl, rfl, _, rfl, l _ H3 ((k1.trans k2).trans k3) q⟩
    · rw [if_neg hij] at h2
      rw [decide_eq_false hij, if_neg (by decide)]
      exact ⟨false, rfl, l _ H2 (k1.trans k2) h2⟩
end
end WK
set_option maxRecDepth 100000
set_option maxHeartbeats 4000000
namespace WK
open PySem PySem.Spec PyProof.Rows L2
section
variable {X : Cx} {C : Addr} {M : Option Tp} {env : Env} {e a b c : Expr} {es : List Expr} {pos p p2 : Pos}
/-! ### calls of built-ins -/
/-- a call on data -/
def RCA (X : Cx) (C : Addr) (M : Option Tp) (r : List V → Hp → VK → Prop) (xs : List D) (Q : D → Prop) : Prop := ∀ vs H, Good X.K M H → RpAll X.K C H vs xs → ∀ Q', Lift X C M H Q Q' → r vs H Q'
theorem ae_cb {r : List V → Hp → VK → Prop} {ta : TA} {Q : D → Prop} (h : AA X C M ta env fun xs => RCA X C M r xs Q) : AE X C M (tCB r ta) env Q := fun σ H g s Q' l =>
  h σ H g s _ fun vs xs H1 k1 r1 h1 => h1 vs H1 k1.good r1 Q' (lift_at l k1)
theorem de_callB {r : List V → Hp → VK → Prop} {x : Str} {id : String} {Q : D → Prop} (hc : CallR X (.builtin id) r) (hg : Gl X x) (hm : X.mg x = none) (hv : bootBuiltins x = some (.builtin id)) (h : DA X C M (e :: es) env fun xs => RCA X C M r xs Q) (hn : x ≠ "__name__" := by decide) (hdb : (x == ("__debug__" : Str)) = false := by decide)
    (he : starEach (e :: es) X.env = (false, eval e X.env) :: starEach es X.env := by rfl) (hpl : (backTo pos (starEach es X.env)).any (·.1) = false := by rfl) : DE X C M (.Call (.Name x p) (e :: es) [] pos) env Q := de_of (pe_callB hc hg hm hv pA hn hdb he hpl) (ae_cb h)
theorem de_callTy {r : List V → Hp → VK → Prop} {x : Str} {T : String} {Q : D → Prop} (hc : CallR X (.type T) r) (hg : Gl X x) (hm : X.mg x = none) (hv : bootBuiltins x = some (.type T)) (h : DA X C M (e :: es) env fun xs => RCA X C M r xs Q) (hn : x ≠ "__name__" := by decide) (hdb : (x == ("__debug__" : Str)) = false := by decide)
    (he : starEach (e :: es) X.env = (false, eval e X.env) :: starEach es X.env := by rfl) (hpl : (backTo pos (starEach es X.env)).any (·.1) = false := by rfl) : DE X C M (.Call (.Name x p) (e :: es) [] pos) env Q := de_of (pe_callTy hc hg hm hv pA hn hdb he hpl) (ae_cb h)
def lenD : D → Option Nat
  | .tup ds => some ds.length
  | .blob n => some n
  | .ilst ns => some ns.length
  | .slst ss => some ss.length
  | _ => none
theorem AA.imp {t : TA} {Q R : List D → Prop} (h : AA X C M t env Q) (i : ∀ d, Q d → R d) : AA X C M t env R := fun σ H g s Q' l => h σ H g s Q' fun v d H' k r q => l v d H' k r (i d q)
theorem rca_one {r : List V → Hp → VK → Prop} {Q : D → Prop} {P : D → Prop} (h : ∀ v H x, Good X.K M H → Rp X.K C H v x → P x → ∀ Q', Lift X C M H Q Q' → r [v] H Q') : ∀ xs, (∃ x, xs = [x] ∧ P x) → RCA X C M r xs Q := fun xs ⟨x, e, p⟩ vs H g rs Q' l => by
  subst e
  cases rs with
  | cons r1 r2 => cases r2; exact h _ H x g r1 p Q' l
theorem da_one {Q : D → Prop} (h : DE X C M e env Q) (hs : starEach [e] X.env = [(false, eval e X.env)] := by rfl) : DA X C M [e] env fun xs => ∃ x, xs = [x] ∧ Q x := da_cons (h.imp fun x q => da_nil ⟨x, rfl, q⟩) hs
theorem de_len {Q : D → Prop} (hg : Gl X "len") (hm : X.mg "len" = none) (h : DE X C M e env fun x => ∃ n, lenD x = some n ∧ Q (.int n)) (he : starEach [e] X.env = [(false, eval e X.env)] := by rfl) : DE X C M (.Call (.Name "len" p) [e] [] pos) env Q :=
  de_callB call_len hg hm PySem.boot_len ((da_one h he).imp (rca_one fun v H x g r ⟨n, e, q⟩ Q' l => ⟨v, n, rfl, (by
    cases r with
    | tup hs hr => cases e; exact .inr ⟨_, hs, hr.length.symm⟩
    | blob hs hn => cases e; exact .inr ⟨_, hs, hn.symm⟩
    | ilst hs => cases e; exact .inl ⟨_, hs, by rw [List.length_map]⟩
    | slst hs => cases e; exact .inl ⟨_, hs, by rw [List.length_map]⟩
    | _ => cases e), l _ _ H (Keep.refl g) (.int n) q⟩)) (he := he)
theorem de_intc {Q : D → Prop} (hg : Gl X "int") (hm : X.mg "int" = none) (h : DE X C M e env fun x => ∃ i, x = .int i ∧ Q (.int i)) (he : starEach [e] X.env = [(false, eval e X.env)] := by rfl) : DE X C M (.Call (.Name "int" p) [e] [] pos) env Q :=
  de_callTy call_int1 hg hm PyProof.Rows.boot_int ((da_one h he).imp (rca_one fun v H x g r ⟨i, e, q⟩ Q' l => by
    subst e; cases r
    exact .inl ⟨i, rfl, l _ _ H (Keep.refl g) (.int i) q⟩)) (he := he)
theorem de_abs {Q : D → Prop} (hg : Gl X "abs") (hm : X.mg "abs" = none) (h : DE X C M e env fun x => ∃ i, x = .int i ∧ Q (.int (if i < 0 then -i else i))) (he : starEach [e] X.env = [(false, eval e X.env)] := by rfl) : DE X C M (.Call (.Name "abs" p) [e] [] pos) env Q :=
  de_callB call_abs hg hm PyProof.Rows.boot_abs ((da_one h he).imp (rca_one fun v H x g r ⟨i, e, q⟩ Q' l => by
    subst e; cases r
    exact ⟨i, rfl, l _ _ H (Keep.refl g) (.int _) q⟩)) (he := he)
theorem de_max {Q : D → Prop} (hc : X.calm = true) (hg : Gl X "max") (hm : X.mg "max" = none) (h : DE X C M a env fun x => DE X C M b env fun y => ∃ i j, x = .int i ∧ y = .int j ∧ Q (.int (if j > i then j else i))) (he : starEach [a, b] X.env = (false, eval a X.env) :: starEach [b] X.env := by rfl) (he2 : starEach [b] X.env = [(false, eval b X.env)] := by rfl) (hpl : (backTo pos (starEach [b] X.env)).any (·.1) = false := by rfl) : DE X C M (.Call (.Name "max" p) [a, b] [] pos) env Q :=
  de_callB (call_max2 hc) hg hm PyProof.Rows.boot_max (da_cons (h.imp fun x hx => da_cons (hx.imp fun y ⟨i, j, e1, e2, q⟩ => da_nil fun vs H g rs Q' l => by
    subst e1; subst e2
    cases rs with
    | cons r1 r2 =>
      cases r2 with
      | cons r2 r3 =>
        cases r3; cases r1; cases r2
        exact ⟨i, j, rfl, l _ _ H (Keep.refl g) (.int _) q⟩) he2) he) (he := he) (hpl := hpl)
/-! ### data without lists: it stands whatever happens to lists -/
mutual
def D.solid : D → Bool
  | .ilst _ => false
  | .slst _ => false
  | .tup ds => D.solids ds
  | _ => true
def D.solids : List D → Bool
  | [] => true
  | d :: ds => d.solid && D.solids ds
end
mutual
theorem Rp.firm {K : PySem.W.Frag} {C : Addr} {H H' : Hp} (ht : ∀ a xs, SqT K H a xs → SqT K H' a xs) (ho : ∀ a dx fs, H a = some (.ins C dx fs) → H' a = some (.ins C dx fs)) : ∀ (d : D) (v : V), d.solid = true → Rp K C H v d → Rp K C H' v d
  | .non, _, _, .non => .non
  | .bl _, _, _, .bl b => .bl b
  | .int _, _, _, .int i => .int i
  | .str _, _, _, .str s => .str s
  | .tup ds, _, h, .tup hs r => .tup (ht _ _ hs) (RpAll.firm ht ho ds _ h r)
  | .blob _, _, _, .blob h e => .blob (ht _ _ h) e
  | .cfg _, _, _, .cfg h e => .cfg (ho _ _ _ h) e
  | .adr _, _, _, .adr a => .adr a
theorem RpAll.firm {K : PySem.W.Frag} {C : Addr} {H H' : Hp} (ht : ∀ a xs, SqT K H a xs → SqT K H' a xs) (ho : ∀ a dx fs, H a = some (.ins C dx fs) → H' a = some (.ins C dx fs)) : ∀ (ds : List D) (vs : List V), D.solids ds = true → RpAll K C H vs ds → RpAll K C H' vs ds
  | [], _, _, .nil => .nil
  | d :: ds, _, h, .cons h1 h2 => by
    have h3 : (d.solid && D.solids ds) = true := h
    rw [Bool.and_eq_true] at h3
    exact .cons (Rp.firm ht ho d _ h3.1 h1) (RpAll.firm ht ho ds _ h3.2 h2)
end
theorem solids_of : ∀ {ds : List D}, (∀ d ∈ ds, d.solid = true) → D.solids ds = true
  | [], _ => rfl
  | d :: ds, h => by
    show (d.solid && D.solids ds) = true
    rw [h d (by simp), solids_of fun x hx => h x (List.mem_cons_of_mem _ hx)]; rfl
/-- a list that stands apart is written -/
theorem Keep.fill {K : PySem.W.Frag} {M : Option Tp} {H1 H3 : Hp} {L : Addr} {vs ws : List V} (g : Good K M H1) (nL : H1 L = none) (k : Keep K M H1 H3) : Keep K M H1 (upd H3 L (.lst ws)) := by
  cases M with
  | none => exact fun b o hb => by rw [upd_ne (ne_of_none hb nL)]; exact k b o hb
  | some u =>
    have hne : L ≠ u.a := fun e => by
      obtain ⟨_, _, _, h9, _⟩ := g
      rw [← e, nL] at h9; cases h9
    refine ⟨fun b o hn hb => by rw [upd_ne (ne_of_none hb nL)]; exact k.1 b o hn hb, k.2.1, ?_⟩
    obtain ⟨a1, a2, a3, a4, a5, a6⟩ := k.2.2
    obtain ⟨_, _, _, _, b5, _⟩ := g
    refine ⟨a1, a2, a3, by rw [upd_ne (Ne.symm hne)]; exact a4, ?_, a6⟩
    have kk : Keep K (some u) H1 H3 := k
    rcases b5 with (b5 | ⟨o, b5⟩) | b5
    · exact .inl (.inl (by rw [upd_ne (ne_of_none b5 nL)]; exact kk.stands b5 (by intro L p n t q; injection q with q; exact ints_no _ L p n t q)))
    · exact .inl (.inr ⟨o, by rw [upd_ne (ne_of_none b5 nL)]; exact kk.stands b5 (by intro L p n t q; cases q)⟩)
    · exact .inr b5
theorem fill_sqT {K : PySem.W.Frag} {H : Hp} {L : Addr} {vs ws : List V} (h : H L = some (.lst vs)) : ∀ a xs, SqT K H a xs → SqT K (upd H L (.lst ws)) a xs := fun a xs q => by
  rcases q with (q | ⟨o, q⟩) | q
  · exact .inl (.inl (by rw [upd_ne (ne_of q h (by intro z; cases z))]; exact q))
  · exact .inl (.inr ⟨o, by rw [upd_ne (ne_of q h (by intro z; cases z))]; exact q⟩)
  · exact .inr q
theorem fill_ins {H : Hp} {L C : Addr} {vs ws : List V} (h : H L = some (.lst vs)) : ∀ a dx fs, H a = some (.ins C dx fs) → (upd H L (.lst ws)) a = some (.ins C dx fs) := fun a dx fs q => by
  rw [upd_ne (ne_of q h (by intro z; cases z))]; exact q
/-! ### a new list -/
def LiftL (X : Cx) (C : Addr) (M : Option Tp) (H : Hp) (Q : List D → Prop) (Q' : VK) : Prop := ∀ p vs ds H', Keep X.K M H H' → H p = none → H' p = some (.lst vs) → RpAll X.K C H' vs ds → Q ds → Q' (.ref p) H'
def AL (X : Cx) (C : Addr) (M : Option Tp) (t : TE) (env : Env) (Q : List D → Prop) : Prop := ∀ σ H, Good X.K M H → StR X.K C H σ env → ∀ Q' : VK, LiftL X C M H Q Q' → t σ H Q'
abbrev DL (X : Cx) (C : Addr) (M : Option Tp) (e : Expr) (env : Env) (Q : List D → Prop) : Prop := AL X C M (wE X e) env Q
theorem dl_of {t : TE} {Q : List D → Prop} (h : PE X e t) (q : AL X C M t env Q) : DL X C M e env Q := fun σ H g s Q' l pins sh I => h.run pins sh σ H Q' I (q σ H g s Q' l)
theorem de_ilst {Q : D → Prop} (h : DL X C M e env fun ds => ∃ ns : List Int, ds = ns.map D.int ∧ Q (.ilst ns)) : DE X C M e env Q := fun σ H g s Q' l =>
  h σ H g s _ fun p vs ds H' k np hp r ⟨ns, e, q⟩ => by
    subst e
    exact l _ _ H' k (.ilst (by rw [← r.ints]; exact .inl (.inl hp))) q
theorem de_slst {Q : D → Prop} (h : DL X C M e env fun ds => ∃ ss : List Str, ds = ss.map D.str ∧ Q (.slst ss)) : DE X C M e env Q := fun σ H g s Q' l =>
  h σ H g s _ fun p vs ds H' k np hp r ⟨ns, e, q⟩ => by
    subst e
    exact l _ _ H' k (.slst (by rw [← r.strs]; exact .inl (.inl hp))) q
/-- tuple([..]) -/
theorem de_tupleOf {Q : D → Prop} (hg : Gl X "tuple") (hm : X.mg "tuple" = none) (h : DL X C M e env fun ds => Q (.tup ds)) (he : starEach [e] X.env = [(false, eval e X.env)] := by rfl) : DE X C M (.Call (.Name "tuple" p) [e] [] pos) env Q :=
  de_of (pe_callTy call_tuple_of hg hm PyProof.Rows.boot_tuple (pa_cons pE pa_nil (hs := he)) (he := he)) fun σ H g s Q' l => h σ H g s _ fun q vs ds H1 k1 nq hq r1 h1 => ⟨q, vs, rfl, .inl ⟨.inl (.inl hq), fun t nt =>
    l _ _ _ (k1.trans (Keep.new k1.good nt)) (.tup (.inl (.inl upd_same)) ((Keep.new k1.good nt).rps r1)) h1⟩⟩
/-! ### list comprehensions over a tuple -/
/-- the tests of a clause -/
def wTs (X : Cx) (ifs : List Expr) : TT := fun σ H Q => ∀ pins s, Inv X pins σ H s →
    wpAny (model X.prog X.w) X.A
      (forIn ifs true fun c r => if r = true then do let ok ← isTrue c X.env (eval c X.env); pure (ForInStep.yield ok) else pure (ForInStep.yield r)) (TP X pins σ Q) X.xe s
abbrev DTs (X : Cx) (C : Addr) (M : Option Tp) (ifs : List Expr) (env : Env) (Q : Bool → Prop) : Prop := AT X C M (wTs X ifs) env Q
theorem dts_nil {Q : Bool → Prop} (q : Q true) : DTs X C M [] env Q := fun σ H g s Q' l pins sh I => pts_nil.run pins sh σ H Q' I (l true H (Keep.refl g) q)
theorem dts_one {Q : Bool → Prop} (h : DT X C M c env Q) : DTs X C M [c] env Q := fun σ H g s Q' l pins sh I => (pts_one pT).run pins sh σ H Q' I (h σ H g s Q' l)
theorem getElem?_set_none {env : Env} {i j : Nat} {x : D} (h : (env.set i none)[j]? = some (some x)) : env[j]? = some (some x) := by
  by_cases hj : i = j
  · subst hj
    by_cases hi : i < env.length
    · rw [List.getElem?_set_self hi] at h; cases h
    · rw [List.getElem?_eq_none (by rw [List.length_set]; omega)] at h; cases h
  · rw [List.getElem?_set_ne hj] at h; exact h
theorem StR.wiped {K : PySem.W.Frag} {H : Hp} {σ : L2.St} (s : StR K C H σ env) (i : Nat) : StR K C H (σ.set i none) (env.set i none) := ⟨by rw [List.length_set, List.length_set, s.len], fun j d e => by
  have h1 := getElem?_set_none e
  obtain ⟨v, h2, h3⟩ := s.get j d h1
  refine ⟨v, ?_, h3⟩
  by_cases hj : i = j
  · subst hj
    have hi : i < env.length := (List.getElem?_eq_some_iff.mp h1).1
    rw [List.getElem?_set_self hi] at e; cases e
  · rw [List.getElem?_set_ne hj]; exact h2⟩
theorem set_wipe {σ : L2.St} {i : Nat} {v : Option V} : (((σ.set i none).set i v).set i none : L2.St) = σ.set i none := by
  apply List.ext_getElem?
  intro j
  by_cases hj : i = j
  · subst hj
    by_cases hi : i < σ.length
    · rw [List.getElem?_set_self (by simpa using hi), List.getElem?_set_self hi]
    · rw [List.getElem?_eq_none (by simp; omega), List.getElem?_eq_none (by simp; omega)]
  · rw [List.getElem?_set_ne hj, List.getElem?_set_ne hj]
/-- the readings of a comprehension's block, in every block that the comprehension may open -/
def bT (X : Cx) (scope : Scope) (ifs : List Expr) : TT := fun σ H Q => ∀ (s : Shared) (H0 : Hp) (C' : Addr) (cl : List (Str × Addr)) (fp : List Addr), wTs (X.blk s H0 scope (compEnvC scope cl C' X.env) fp) ifs σ H Q
def bE (X : Cx) (scope : Scope) (elt : Expr) : TE := fun σ H Q => ∀ (s : Shared) (H0 : Hp) (C' : Addr) (cl : List (Str × Addr)) (fp : List Addr), wE (X.blk s H0 scope (compEnvC scope cl C' X.env) fp) elt σ H Q
def LcAsks (X : Cx) (C : Addr) (M : Option Tp) (i : Nat) (ifs : List Expr) (scope : Scope) (elt : Expr) (env : Env) (Q : List D → Prop) (y : D) : Prop := ∃ (ds : List D) (p : D → Bool) (f : D → D), y = .tup ds ∧ ds.length ≤ 100000 ∧
      (∀ d ∈ ds, ∀ (s : Shared) (H : Hp) (C' : Addr) (cl : List (Str × Addr)) (fp : List Addr), DTs (X.blk s H scope (compEnvC scope cl C' X.env) fp) C M ifs ((env.set i none).set i (some d)) fun k => k = p d) ∧
      (∀ d ∈ ds, p d = true → ∀ (s : Shared) (H : Hp) (C' : Addr) (cl : List (Str × Addr)) (fp : List Addr), DE (X.blk s H scope (compEnvC scope cl C' X.env) fp) C M elt ((env.set i none).set i (some d)) fun z => z = f d) ∧
      (∀ d ∈ ds, p d = true → (f d).solid = true) ∧ Q ((ds.filter p).map f)
theorem al_lc {Q : List D → Prop} {i : Nat} {iter elt : Expr} {ifs : List Expr} {scope : Scope} (h : DE X C M iter env (LcAsks X C M i ifs scope elt env Q)) : AL X C M (tLc (iTup X.K (wE X iter)) (gName i) (bT X scope ifs) (bE X scope elt) [i]) env Q := by
  intro σ H g s Q' l
  refine h σ H g s _ fun v y H1 k1 r1 ⟨ds, p, f, e, hlen, h1, h2, h3, q⟩ => ?_
  subst e
  cases r1 with
  | @tup a' xs _ hsq hr =>
  refine ⟨a', rfl, ⟨xs, hsq⟩, fun L nL => ?_⟩
  have k2 := Keep.new (o := .lst []) k1.good nL
  show ∃ W : Nat → Nat → Hp → Prop, _
  have key := lc_tup (K := X.K) (a := a') (xs := xs) (g := gName i) (tt := bT X scope ifs)
    (te := bE X scope elt) (vs := [i]) (σ := σ) (H1 := H1) (D := L) (Qd := fun H' => Q' (.ref L) H')
    (fun j H' => Keep X.K M H1 H' ∧ ∃ vs, H' L = some (.lst vs) ∧ RpAll X.K C H' vs (((ds.take j).filter p).map f)) ⟨k2, [], upd_same, .nil⟩ (fun j H' _ ⟨k, _⟩ => k.sqT hsq) (fun j z H' hz ⟨k, vs, hL, hvs⟩ => ?_) (fun H' ⟨k, vs, hL, hvs⟩ => ?_)
  · exact key
  · refine ⟨set_wipe, ?_⟩
    obtain ⟨d, hd, rd⟩ := hr.getV hz
    have hmem := List.mem_of_getElem? hd
    have htk : ds.take (j + 1) = ds.take j ++ [d] := by rw [List.take_add_one, hd]; rfl
    have rd' := k.rp rd
    have st : StR X.K C H' ((σ.set i none).set i (some z)) ((env.set i none).set i (some d)) := StR.set ((s.keep (k1.trans k)).wiped i) i rd'
    intro s' H0 C' cl fp
    refine h1 d hmem s' H0 C' cl fp _ H' k.good st _ fun b H2 kk e => ?_
    subst e
    have kk : Keep X.K M H' H2 := kk
    have hL2 := Keep.mine k1.good nL kk hL
    cases hp : p d with
    | false =>
      rw [if_neg (by decide)]
      refine ⟨k.trans kk, vs, hL2, ?_⟩
      rw [htk, List.filter_append, List.filter_cons, hp]
      simpa using kk.rps hvs
    | true =>
      rw [if_pos rfl]
      intro s'' H0' C'' cl' fp'
      refine h2 d hmem hp s'' H0' C'' cl' fp' _ H2 kk.good (st.keep kk) _ fun y yd H3 k3 ry e => ?_
      subst e
      have k3 : Keep X.K M H2 H3 := k3
      have ry : Rp X.K C H3 y (f d) := ry
      have hL3 := Keep.mine k1.good nL k3 hL2
      have kc := (k.trans kk).trans k3
      have hlen2 : vs.length ≤ 100000 := by
        rw [hvs.length, List.length_map]
        have h5 := List.length_filter_le p (ds.take j)
        have h6 := List.length_take_le j ds
        have h7 : (ds.take j).length ≤ ds.length := by rw [List.length_take]; omega
        omega
      have hlt : vs.length < 100001 := by omega
      refine ⟨vs, hL3, Nat.lt_of_lt_of_le hlt (by decide), Keep.fill (vs := vs) k1.good nL kc, vs ++ [y], upd_same, ?_⟩
      rw [htk, List.filter_append, List.filter_cons, hp, if_pos rfl, List.filter_nil, List.map_append]
      have hs1 : D.solids (((ds.take j).filter p).map f) = true := solids_of fun x hx => by
        obtain ⟨w, hw, rfl⟩ := List.mem_map.mp hx
        obtain ⟨w1, w2⟩ := List.mem_filter.mp hw
        exact h3 w (List.mem_of_mem_take w1) w2
      exact (RpAll.firm (fill_sqT hL3) (fill_ins hL3) _ _ hs1 ((kk.trans k3).rps hvs)).append (.cons (Rp.firm (fill_sqT hL3) (fill_ins hL3) _ _ (h3 d hmem hp) ry) .nil)
  · have e1 : xs.length = ds.length := hr.length
    rw [e1, List.take_length] at hvs
    exact l L vs _ H' (k1.trans k) (k1.fresh nL) hL hvs q
theorem dl_lc {Q : List D → Prop} {x : Str} {px : Pos} {i : Nat} {iter elt : Expr} {ifs : List Expr} {scope : Scope} (hc : X.calm = true) (hN : X.N.Nodup) (ok : BlkOk X.N X.env.scope scope [(x, i)]) (hx : (relS scope X.env.scope).names.lookup x = some .local) (hi : X.N[i]? = some x)
    (h : DE X C M iter env (LcAsks X C M i ifs scope elt env Q)) (hs : ∀ x, foldedSetIterable iter X.env x = pure x := by intro _; rfl) : DL X C M (.ListComp elt [⟨.Name x px, iter, ifs, 0⟩] scope pos) env Q :=
  dl_of (pe_lc (own := [(x, i)]) (g := gName i) (tt := bT X scope ifs) (te := bE X scope elt) hc hN (pi_tup pE) ok (fun _ _ _ _ _ => pg_name hN hi (.inl hx) (.inr hx))
    (fun s H C' cl fp => ⟨fun pins sh σ H1 Q I q => q s H C' cl fp pins sh I⟩) (fun s H C' cl fp => ⟨fun pins sh σ H1 Q I q => q s H C' cl fp pins sh I⟩) hs) (al_lc h)
end
end WK
set_option maxRecDepth 100000
set_option maxHeartbeats 4000000
namespace WK
open PySem PySem.Spec PyProof.Rows L2
section
variable {X : Cx} {C : Addr} {M : Option Tp} {env : Env} {e a b c : Expr} {es : List Expr} {pos p p2 : Pos}
/-- [elt for x in range(n)] -/
theorem dl_lcR {Q : List D → Prop} {x : Str} {px pr pr2 : Pos} {i : Nat} {elt : Expr} {scope : Scope} (hc : X.calm = true) (hN : X.N.Nodup) (ok : BlkOk X.N X.env.scope scope [(x, i)]) (hx : (relS scope X.env.scope).names.lookup x = some .local) (hi : X.N[i]? = some x) (hg : Gl X "range") (hm : X.mg "range" = none)
    (h : DE X C M a env fun y => ∃ (n : Nat) (z : D), y = .int n ∧ n ≤ 100000 ∧ z.solid = true ∧
      (∀ j : Nat, ∀ (s : Shared) (H : Hp) (C' : Addr) (cl : List (Str × Addr)) (fp : List Addr), DE (X.blk s H scope (compEnvC scope cl C' X.env) fp) C M elt ((env.set i none).set i (some (.int j))) fun y => y = z) ∧
      Q (List.replicate n z))
    (hs : ∀ x, foldedSetIterable (.Call (.Name "range" pr) [a] [] pr2) X.env x = pure x := by intro _; rfl) (hs2 : starEach [a] X.env = [(false, eval a X.env)] := by rfl) : DL X C M (.ListComp elt [⟨.Name x px, .Call (.Name "range" pr) [a] [] pr2, [], 0⟩] scope pos) env Q := by
  refine dl_of (pe_lc (own := [(x, i)]) (g := gName i) (tt := tYes)
    (te := fun σ H Q => ∀ (s : Shared) (H0 : Hp) (C' : Addr) (cl : List (Str × Addr)) (fp : List Addr), wE (X.blk s H0 scope (compEnvC scope cl C' X.env) fp) elt σ H Q) hc hN (pi_range1 hg hm (pa_cons pE pa_nil (hs := hs2)) hs2) ok
    (fun _ _ _ _ _ => pg_name hN hi (.inl hx) (.inr hx)) (fun _ _ _ _ _ => pts_nil) (fun s H C' cl fp => ⟨fun pins sh σ H1 Q I q => q s H C' cl fp pins sh I⟩) hs) ?_
  intro σ H g s Q' l
  refine h σ H g s _ fun v y H1 k1 r1 ⟨n, z, e, hlen, hz, h1, q⟩ => ?_
  subst e
  cases r1
  refine ⟨n, rfl, by omega, by omega, fun L nL => ?_⟩
  have k2 := Keep.new (o := .lst []) k1.good nL
  have key := lc_range (lo := 0) (n := (n : Int).toNat) (g := gName i) (tt := tYes)
    (te := fun σ H Q => ∀ (s : Shared) (H0 : Hp) (C' : Addr) (cl : List (Str × Addr)) (fp : List Addr), wE (X.blk s H0 scope (compEnvC scope cl C' X.env) fp) elt σ H Q) (vs := [i]) (σ := σ) (H1 := H1) (D := L) (Qd := fun H' => Q' (.ref L) H')
    (fun j H' => Keep X.K M H1 H' ∧ ∃ vs, H' L = some (.lst vs) ∧ RpAll X.K C H' vs (List.replicate j z)) ⟨k2, [], upd_same, .nil⟩ (fun j H' hj ⟨k, vs, hL, hvs⟩ => ?_) (fun H' ⟨k, vs, hL, hvs⟩ => ?_)
  · exact key
  · refine ⟨set_wipe, ?_⟩
    have st : StR X.K C H' ((σ.set i none).set i (some (.int (0 + j)))) ((env.set i none).set i (some (.int j))) := StR.set ((s.keep (k1.trans k)).wiped i) i (by rw [Int.zero_add]; exact .int _)
    unfold tYes
    simp only [if_true]
    intro s'' H0' C'' cl' fp'
    refine h1 j s'' H0' C'' cl' fp' _ H' k.good st _ fun y yd H3 k3 ry e => ?_
    subst e
    have k3 : Keep X.K M H' H3 := k3
    have ry : Rp X.K C H3 y yd := ry
    have hL3 := Keep.mine k1.good nL k3 hL
    have kc := k.trans k3
    have hlen2 : vs.length ≤ 100000 := by rw [hvs.length, List.length_replicate]; omega
    have hlt : vs.length < 100001 := by omega
    refine ⟨vs, hL3, Nat.lt_of_lt_of_le hlt (by decide), Keep.fill (vs := vs) k1.good nL kc, vs ++ [y], upd_same, ?_⟩
    rw [List.replicate_succ']
    have hs1 : D.solids (List.replicate j yd) = true := solids_of fun x hx => by rw [(List.mem_replicate.mp hx).2]; exact hz
    exact (RpAll.firm (fill_sqT hL3) (fill_ins hL3) _ _ hs1 (k3.rps hvs)).append (.cons (Rp.firm (fill_sqT hL3) (fill_ins hL3) _ _ hz ry) .nil)
  · rw [Int.toNat_natCast] at hvs
    exact l L vs _ H' (k1.trans k) (k1.fresh nL) hL hvs q
/-! ### fields -/
theorem de_fld {Q : D → Prop} {fld : Str} {sel : LK.Cfg → D} (cls : Cls X.K C) (na : NoAttr X.K C fld) (hsel : ∀ (H : Hp) (g : LK.Cfg) (fs : List (Str × V)), CfgFs g fs → ∃ v, fs.lookup fld = some v ∧ Rp X.K C H v (sel g))
    (h : DE X C M e env fun x => ∃ g, x = .cfg g ∧ Q (sel g)) (hb : attributeBase e fld X.env (eval e X.env) = eval e X.env := by rfl) : DE X C M (.Attribute e fld pos) env Q :=
  de_of (pe_fld pE hb) fun σ H g s Q' l => h σ H g s _ fun v x H1 k1 r1 ⟨g, e, q⟩ => by
    subst e
    cases r1 with
    | cfg hi hf =>
      obtain ⟨w, h1, h2⟩ := hsel H1 g _ hf
      exact ⟨_, _, _, _, w, rfl, hi, cls, na, h1, l _ _ H1 k1 h2 q⟩
theorem sel_lw : ∀ (H : Hp) (g : LK.Cfg) (fs : List (Str × V)), CfgFs g fs → ∃ v, fs.lookup ("line_words" : Str) = some v ∧ Rp X.K C H v (.int g.lw) := fun H g fs h => ⟨_, h.1, .int _⟩
theorem sel_sets : ∀ (H : Hp) (g : LK.Cfg) (fs : List (Str × V)), CfgFs g fs → ∃ v, fs.lookup ("sets" : Str) = some v ∧ Rp X.K C H v (.int g.sets) := fun H g fs h => ⟨_, h.2.1, .int _⟩
theorem sel_ways : ∀ (H : Hp) (g : LK.Cfg) (fs : List (Str × V)), CfgFs g fs → ∃ v, fs.lookup ("ways" : Str) = some v ∧ Rp X.K C H v (.int g.ways) := fun H g fs h => ⟨_, h.2.2.1, .int _⟩
theorem sel_reqs : ∀ (H : Hp) (g : LK.Cfg) (fs : List (Str × V)), CfgFs g fs → ∃ v, fs.lookup ("requests" : Str) = some v ∧ Rp X.K C H v (.int g.reqs) := fun H g fs h => ⟨_, h.2.2.2.1, .int _⟩
theorem sel_alone : ∀ (H : Hp) (g : LK.Cfg) (fs : List (Str × V)), CfgFs g fs → ∃ v, fs.lookup ("exclusive_state" : Str) = some v ∧ Rp X.K C H v (.bl g.alone) := fun H g fs h => ⟨_, h.2.2.2.2, .bl _⟩
/-! ### the text's own defs: what they ask and give, by data -/
abbrev Sd := List D → (D → Prop) → Prop
/-- a def that writes nothing -/
def SpP (K : PySem.W.Frag) (C : Addr) (S : Sd) : Sp := fun vs H Q _ => ∃ ds R, RpAll K C H vs ds ∧ S ds R ∧ ∀ v d H', Same H H' → Rp K C H' v d → R d → Q v H'
/-- a def that draws from the tape, its first argument -/
def SpT (K : PySem.W.Frag) (C : Addr) (S : Sd) : Sp := fun vs H Q _ => ∃ (u : Tp) (ws : List V) (ds : List D) (R : D → Prop), vs = .ref u.a :: ws ∧ IsTape K H u ∧ RpAll K C H ws ds ∧ S ds R ∧ ∀ v d H', Keep K (some u) H H' → Rp K C H' v d → R d → Q v H'
theorem de_call {Q : D → Prop} {x : Str} {k : Nat} {f : Addr} {fd : FuncData} {ps : List Str} {S : Sd} (F : FnOk X.prog X.w X.K X.mg X.base CX0 k f fd ps (SpP X.K C S)) (hr : Room k X.A) (hg : Gl X x) (hm : X.mg x = some (.ref f)) (hk : PySem.W.keepIn X.K (.ref f) = true) (hb : Binds X.K fd ps [])
    (h : DA X C M (e :: es) env fun ds => S ds Q) (hd : (x == ("__debug__" : Str)) = false := by decide) (he : starEach (e :: es) X.env = (false, eval e X.env) :: starEach es X.env := by rfl) (hpl : (backTo pos (starEach es X.env)).any (·.1) = false := by rfl) : DE X C M (.Call (.Name x p) (e :: es) [] pos) env Q :=
  de_of (pe_call (E := E0) F hr hg hm hk hb .nil pass0 pA hd he hpl) fun σ H g s Q' l => h σ H g s _ fun vs ds H1 k1 r1 q => ⟨ds, Q, by rw [List.append_nil]; exact r1, q, fun v d H' e rv qd => l v d H' (k1.trans (Keep.of_same k1.good e)) rv qd⟩
theorem de_callT {Q : D → Prop} {x : Str} {k : Nat} {f : Addr} {fd : FuncData} {ps : List Str} {S : Sd} {u : Tp} (F : FnOk X.prog X.w X.K X.mg X.base CX0 k f fd ps (SpT X.K C S)) (hr : Room k X.A) (hg : Gl X x) (hm : X.mg x = some (.ref f)) (hk : PySem.W.keepIn X.K (.ref f) = true) (hb : Binds X.K fd ps [])
    (h : DA X C (some u) (e :: es) env fun ds => ∃ ds', ds = .adr u.a :: ds' ∧ S ds' Q) (hd : (x == ("__debug__" : Str)) = false := by decide) (he : starEach (e :: es) X.env = (false, eval e X.env) :: starEach es X.env := by rfl) (hpl : (backTo pos (starEach es X.env)).any (·.1) = false := by rfl) : DE X C (some u) (.Call (.Name x p) (e :: es) [] pos) env Q :=
  de_of (pe_call (E := E0) F hr hg hm hk hb .nil pass0 pA hd he hpl) fun σ H g s Q' l => h σ H g s _ fun vs ds H1 k1 r1 ⟨ds', e, q⟩ => by
    subst e
    cases r1 with
    | cons r1 r2 =>
      cases r1
      exact ⟨u, _, ds', Q, by rw [List.append_nil], k1.2.2, r2, q, fun v d H' k rv qd => l v d H' (k1.trans k) rv qd⟩
/-! ### statements -/
theorem liftS_at {E : DEnds} {De : Ends} {H H1 : Hp} (l : LiftS X C M H E De) (k : Keep X.K M H H1) : LiftS X C M H1 E De :=
  ⟨fun σ' e' H' k' => l.nx σ' e' H' (k.trans k'), fun v d H' k' => l.rt v d H' (k.trans k'), fun σ' e' H' k' => l.bk σ' e' H' (k.trans k'), fun σ' e' H' k' => l.ct σ' e' H' (k.trans k')⟩
theorem dss_nil {E : DEnds} (q : E.nx env) : DSs X C M [] env E := dss_of pss_nil fun σ H g s De l => l.nx σ env H (Keep.refl g) s q
theorem dss_cons {st : Stmt} {rest : List Stmt} {E : DEnds} (h : DS X C M st env { E with nx := fun env' => DSs X C M rest env' E }) : DSs X C M (st :: rest) env E :=
  dss_of (pss_cons pS pSs) fun σ H g s De l => h σ H g s _ ⟨fun σ' e' H' k' s' q => q σ' H' k'.good s' De (liftS_at l k'), l.rt, l.bk, l.ct⟩
theorem ds_set {E : DEnds} {x : Str} {px : Pos} (i : Nat) (hN : X.N.Nodup) (hi : X.N[i]? = some x) (hx : Loc X.env.scope x) (h : DE X C M e env fun d => E.nx (env.set i (some d))) (hs : swapsWith e (some (.Name x px)) pos.line X.env = pure false := by rfl) (hf : X.fn x = true ∨ X.env.scope.names.lookup x = some .local := by first | exact .inl rfl | exact .inr rfl) : DS X C M (.Assign [.Name x px] e pos) env E :=
  ds_of (ps_set hN hi hx pE hs hf) fun σ H g s De l => h σ H g s _ fun v d H1 k1 r1 q => l.nx _ _ H1 k1 ((s.keep k1).set i r1) q
theorem ds_ret {E : DEnds} (h : DE X C M e env E.rt) : DS X C M (.Return (some e) pos) env E := ds_of (ps_ret pE) fun σ H g s De l => h σ H g s _ fun v d H1 k1 r1 q => l.rt v d H1 k1 r1 q
theorem ds_if {E : DEnds} {s1 s2 : List Stmt} (h : DT X C M c env fun k => if k = true then DSs X C M s1 env E else DSs X C M s2 env E) : DS X C M (.If c s1 s2 pos) env E :=
  ds_of (ps_if pT pSs pSs) fun σ H g s De l => h σ H g s _ fun k H1 k1 h1 => by
    cases k with
    | true => exact h1 σ H1 k1.good (s.keep k1) De (liftS_at l k1)
    | false => exact h1 σ H1 k1.good (s.keep k1) De (liftS_at l k1)
theorem ds_break {E : DEnds} (q : E.bk env) : DS X C M (.Break pos) env E := ds_of ps_break fun σ H g s De l => l.bk σ env H (Keep.refl g) s q
theorem DSs.imp {sts : List Stmt} {E E' : DEnds} (h : DSs X C M sts env E) (h1 : ∀ e, E.nx e → E'.nx e) (h2 : ∀ d, E.rt d → E'.rt d) (h3 : ∀ e, E.bk e → E'.bk e) (h4 : ∀ e, E.ct e → E'.ct e) : DSs X C M sts env E' :=
  fun σ H g s De l => h σ H g s De ⟨fun σ' e' H' k s' q => l.nx σ' e' H' k s' (h1 e' q), fun v d H' k r q => l.rt v d H' k r (h2 d q), fun σ' e' H' k s' q => l.bk σ' e' H' k s' (h3 e' q), fun σ' e' H' k s' q => l.ct σ' e' H' k s' (h4 e' q)⟩
/-- names, from the left, take the items of a tuple -/
def setAll : Env → List Nat → List D → Env
  | env, i :: is, d :: ds => setAll (env.set i (some d)) is ds
  | env, _, _ => env
def gNames : List Nat → TGs
  | [] => gNil
  | i :: is => gCons (gName i) (gNames is)
theorem names_ok {Q : L2.St → Hp → Prop} {K : PySem.W.Frag} {H : Hp} : ∀ {is : List Nat} {vs : List V} {ds : List D} {σ : L2.St} {env : Env}, RpAll K C H vs ds → is.length = ds.length → StR K C H σ env → (∀ σ', StR K C H σ' (setAll env is ds) → Q σ' H) → gNames is vs σ H Q
  | [], _, _, σ, env, .nil, _, s, q => ⟨rfl, q σ s⟩
  | i :: is, _, _, σ, env, .cons h r, e, s, q => ⟨_, _, rfl, names_ok r (by simpa using e) (s.set i h) q⟩
theorem ds_unpack {E : DEnds} {ts : List Expr} {kt : Nat} {pt : Pos} (is : List Nat) (hc : X.calm = true) (hg : PGs X ts (gNames is)) (hn : (assignEach ts X.env).length = is.length)
    (h : DE X C M e env fun d => ∃ ds, d = .tup ds ∧ is.length = ds.length ∧ E.nx (setAll env is ds))
    (hst : (assignEach ts X.env).findIdx? (·.1) = none := by rfl) (hs : swapsWithSole [.Tuple ts kt pt] e pos.line X.env = pure false := by rfl) (hw : swappedStores [.Tuple ts kt pt] e X.env = pure none := by rfl) (h1 : (assignEach [.Tuple ts kt pt] X.env).map (·.2) = [assign (.Tuple ts kt pt) X.env] := by rfl) : DS X C M (.Assign [.Tuple ts kt pt] e pos) env E :=
  ds_of (ps_asg pE (pg_tup hc hg hn hst) hs hw h1) fun σ H g s De l => h σ H g s _ fun v d H1 k1 r1 ⟨ds, e, hl, q⟩ => by
    subst e
    cases r1 with
    | tup hq hr => exact ⟨_, _, rfl, hq, hr.length.trans hl.symm, names_ok hr hl (s.keep k1) fun σ' s' => l.nx σ' _ H1 k1 s' q⟩
theorem ds_par {E : DEnds} {x y : Str} {px py pt pt2 : Pos} {kt k2} (i j : Nat) (hc : X.calm = true) (hN : X.N.Nodup) (hi : X.N[i]? = some x) (hj : X.N[j]? = some y) (hij : i ≠ j) (hx : X.env.scope.names.lookup x = some .local) (hy : X.env.scope.names.lookup y = some .local)
    (h : DA X C M [a, b] env fun ds => ∃ d1 d2, ds = [d1, d2] ∧ E.nx ((env.set i (some d1)).set j (some d2)))
    (hw : swappedStores [.Tuple [.Name x px, .Name y py] kt pt] (.Tuple [a, b] k2 pt2) X.env = pure (some [x, y]) := by rfl) (hs : swapsWithSole [.Tuple [.Name x px, .Name y py] kt pt] (.Tuple [a, b] k2 pt2) pos.line X.env = pure false := by rfl) :
    DS X C M (.Assign [.Tuple [.Name x px, .Name y py] kt pt] (.Tuple [a, b] k2 pt2) pos) env E :=
  ds_of (ps_par hc hN hi hj hij hx hy pA hw hs) fun σ H g s De l => h σ H g s _ fun vs ds H1 k1 r1 ⟨d1, d2, e, q⟩ => by
    subst e
    cases r1 with
    | cons r1 r2 =>
      cases r2 with
      | cons r2 r3 =>
        cases r3
        exact ⟨_, _, rfl, l.nx _ _ H1 k1 (((s.keep k1).set i r1).set j r2) q⟩
theorem ds_par3 {E : DEnds} {x y z : Str} {px py pz pt pt2 : Pos} {kt k2} (i j m : Nat) (hc : X.calm = true) (hN : X.N.Nodup) (hi : X.N[i]? = some x) (hj : X.N[j]? = some y) (hm : X.N[m]? = some z) (hij : i ≠ j) (him : i ≠ m) (hjm : j ≠ m) (hx : X.env.scope.names.lookup x = some .local) (hy : X.env.scope.names.lookup y = some .local) (hz : X.env.scope.names.lookup z = some .local)
    (h : DA X C M [a, b, c] env fun ds => ∃ d1 d2 d3, ds = [d1, d2, d3] ∧ E.nx (((env.set i (some d1)).set j (some d2)).set m (some d3)))
    (hw : swappedStores [.Tuple [.Name x px, .Name y py, .Name z pz] kt pt] (.Tuple [a, b, c] k2 pt2) X.env = pure (some [x, y, z]) := by rfl) (hs : swapsWithSole [.Tuple [.Name x px, .Name y py, .Name z pz] kt pt] (.Tuple [a, b, c] k2 pt2) pos.line X.env = pure false := by rfl) :
    DS X C M (.Assign [.Tuple [.Name x px, .Name y py, .Name z pz] kt pt] (.Tuple [a, b, c] k2 pt2) pos) env E :=
  ds_of (ps_par3 hc hN hi hj hm hij him hjm hx hy hz pA hw hs) fun σ H g s De l => h σ H g s _ fun vs ds H1 k1 r1 ⟨d1, d2, d3, e, q⟩ => by
    subst e
    cases r1 with
    | cons r1 r2 =>
      cases r2 with
      | cons r2 r3 =>
        cases r3 with
        | cons r3 r4 =>
          cases r4
          exact ⟨_, _, _, rfl, l.nx _ _ H1 k1 ((((s.keep k1).set i r1).set j r2).set m r3) q⟩
/-- name = [..] of ints, on one line, the name a local -/
theorem ds_setLcI {E : DEnds} {y x : Str} {py px : Pos} {i : Nat} {iter elt : Expr} {ifs : List Expr} {scope : Scope} {spos : Pos} (j : Nat) (hc : X.calm = true) (hN : X.N.Nodup) (hy : X.N[j]? = some y) (hyl : X.env.scope.names.lookup y = some .local)
    (hsw : swapsWith (.ListComp elt [⟨.Name x px, iter, ifs, 0⟩] scope pos) (some (.Name y py)) spos.line X.env = pure true) (ok : BlkOk X.N X.env.scope scope [(x, i)]) (hx : (relS scope X.env.scope).names.lookup x = some .local) (hi : X.N[i]? = some x)
    (h : DE X C M iter env (LcAsks X C M i ifs scope elt env fun ds => ∃ ns : List Int, ds = ns.map D.int ∧ E.nx (env.set j (some (.ilst ns))))) (hs : ∀ x, foldedSetIterable iter X.env x = pure x := by intro _; rfl) : DS X C M (.Assign [.Name y py] (.ListComp elt [⟨.Name x px, iter, ifs, 0⟩] scope pos) spos) env E :=
  ds_of (ps_setLc (own := [(x, i)]) (g := gName i) (tt := bT X scope ifs) (te := bE X scope elt) hc hN hy hyl hsw (pi_tup pE) ok (fun _ _ _ _ _ => pg_name hN hi (.inl hx) (.inr hx))
    (fun s H C' cl fp => ⟨fun pins sh σ H1 Q I q => q s H C' cl fp pins sh I⟩) (fun s H C' cl fp => ⟨fun pins sh σ H1 Q I q => q s H C' cl fp pins sh I⟩) hs) fun σ H g s De l =>
    al_lc h σ H g s _ fun p vs ds H' k np hp r ⟨ns, e, q⟩ => by
      subst e
      exact l.nx _ _ H' k ((s.keep k).set j (.ilst (by rw [← r.ints]; exact .inl (.inl hp)))) q
/-! ### loops -/
theorem ds_forT {E : DEnds} {x : Str} {px : Pos} {body : List Stmt} (i : Nat) (J : Nat → Env → Prop) (hp : PassesOwn (model X.prog X.w) X.A X.env X.xe) (hc : X.calm = true) (hN : X.N.Nodup) (hi : X.N[i]? = some x) (hx : Loc X.env.scope x)
    (h : DE X C M e env fun y => ∃ ds, y = .tup ds ∧ J 0 env ∧ (∀ j env' d, J j env' → ds[j]? = some d → DSs X C M body (env'.set i (some d)) { nx := J (j + 1), ct := J (j + 1), rt := E.rt, bk := E.nx }) ∧ (∀ env', J ds.length env' → E.nx env'))
    (hf : X.fn x = true ∨ X.env.scope.names.lookup x = some .local := by first | exact .inl rfl | exact .inr rfl) (hs : ∀ x, foldedSetIterable e X.env x = pure x := by intro _; rfl) : DS X C M (.For (.Name x px) e body [] pos) env E :=
  ds_of (ps_for hp hc (pi_tup pE) (pg_name hN hi hx hf) pSs hs) fun σ H g s De l => h σ H g s _ fun v y H1 k1 r1 ⟨ds, e, h0, h1, h2⟩ => by
    subst e
    cases r1 with
    | @tup a' xs _ hq hr =>
    refine ⟨a', rfl, ⟨xs, hq⟩, for_tup (xs := xs) (fun j σ' H' => Keep X.K M H1 H' ∧ ∃ env', StR X.K C H' σ' env' ∧ J j env') ⟨Keep.refl k1.good, env, s.keep k1, h0⟩ (fun j σ' H' _ ⟨k, _⟩ => k.sqT hq) (fun j z σ' H' hz ⟨k, env', s', hJ⟩ => ?_) (fun σ' H' ⟨k, env', s', hJ⟩ => ?_)⟩
    · obtain ⟨d, hd, rd⟩ := hr.getV hz
      exact h1 j env' d hJ hd _ H' k.good (s'.set i (k.rp rd)) _ ⟨fun σ2 e2 H2 k2 s2 q => ⟨k.trans k2, e2, s2, q⟩, fun v d H2 k2 r q => l.rt v d H2 ((k1.trans k).trans k2) r q, fun σ2 e2 H2 k2 s2 q => l.nx σ2 e2 H2 ((k1.trans k).trans k2) s2 q, fun σ2 e2 H2 k2 s2 q => ⟨k.trans k2, e2, s2, q⟩⟩
    · rw [hr.length] at hJ
      exact l.nx σ' env' H' (k1.trans k) s' (h2 env' hJ)
theorem ds_forR {E : DEnds} {x : Str} {px pr pr2 : Pos} {body : List Stmt} (i : Nat) (J : Nat → Env → Prop) (hp : PassesOwn (model X.prog X.w) X.A X.env X.xe) (hc : X.calm = true) (hN : X.N.Nodup) (hi : X.N[i]? = some x) (hx : Loc X.env.scope x) (hg : Gl X "range") (hm : X.mg "range" = none)
    (h : DE X C M e env fun y => ∃ n : Nat, y = .int n ∧ n ≤ 1000000 ∧ J 0 env ∧ (∀ j env', j < n → J j env' → DSs X C M body (env'.set i (some (.int j))) { nx := J (j + 1), ct := J (j + 1), rt := E.rt, bk := E.nx }) ∧ (∀ env', J n env' → E.nx env'))
    (hf : X.fn x = true ∨ X.env.scope.names.lookup x = some .local := by first | exact .inl rfl | exact .inr rfl) (hs : ∀ x, foldedSetIterable (.Call (.Name "range" pr) [e] [] pr2) X.env x = pure x := by intro _; rfl) (hs2 : starEach [e] X.env = [(false, eval e X.env)] := by rfl) : DS X C M (.For (.Name x px) (.Call (.Name "range" pr) [e] [] pr2) body [] pos) env E :=
  ds_of (ps_for hp hc (pi_range1 hg hm (pa_cons pE pa_nil (hs := hs2)) hs2) (pg_name hN hi hx hf) pSs hs) fun σ H g s De l => h σ H g s _ fun v y H1 k1 r1 ⟨n, e, hn, h0, h1, h2⟩ => by
    subst e
    cases r1
    refine ⟨n, rfl, by omega, by omega, for_range (n := (n : Int).toNat) (fun j σ' H' => Keep X.K M H1 H' ∧ ∃ env', StR X.K C H' σ' env' ∧ J j env') ⟨Keep.refl k1.good, env, s.keep k1, h0⟩ (fun j σ' H' hj ⟨k, env', s', hJ⟩ => ?_) (fun σ' H' ⟨k, env', s', hJ⟩ => ?_)⟩
    · refine h1 j env' (by omega) hJ _ H' k.good (s'.set i (?_ : Rp X.K C H' (.int (0 + j)) (.int j))) _ ⟨fun σ2 e2 H2 k2 s2 q => ⟨k.trans k2, e2, s2, q⟩, fun v d H2 k2 r q => l.rt v d H2 ((k1.trans k).trans k2) r q, fun σ2 e2 H2 k2 s2 q => l.nx σ2 e2 H2 ((k1.trans k).trans k2) s2 q, fun σ2 e2 H2 k2 s2 q => ⟨k.trans k2, e2, s2, q⟩⟩
      rw [Int.zero_add]; exact .int _
    · rw [Int.toNat_natCast] at hJ
      exact l.nx σ' env' H' (k1.trans k) s' (h2 env' hJ)
end
/-! ### a def -/
def startE (N : List Str) (ds : List D) : Env := ds.map some ++ List.replicate (N.length - ds.length) none
theorem str_start {K : PySem.W.Frag} {C : Addr} {H : Hp} {N : List Str} : ∀ {vs : List V} {ds : List D}, RpAll K C H vs ds → StR K C H (L2.start N vs) (startE N ds) := fun {vs ds} r => ⟨by unfold L2.start startE; rw [List.length_append, List.length_append, List.length_map, List.length_map, List.length_replicate, List.length_replicate, r.length], fun i d e => by
  unfold startE at e
  by_cases hi : i < ds.length
  · rw [List.getElem?_append_left (by simpa using hi), List.getElem?_map] at e
    cases q : ds[i]? with
    | none => rw [q] at e; cases e
    | some x =>
      rw [q] at e; cases e
      obtain ⟨v, h1, h2⟩ := r.get q
      refine ⟨v, ?_, h2⟩
      unfold L2.start
      rw [List.getElem?_append_left (by rw [List.length_map, r.length]; exact hi), List.getElem?_map, h1]; rfl
  · rw [List.getElem?_append_right (by simpa using hi), List.getElem?_replicate] at e
    split at e <;> cases e⟩
section
variable {P : Program} {w : World} {K : PySem.W.Frag} {mg : Str → Option Value} {base : Heap} {C : Addr}
theorem fn_pure {x qual : Str} {st : Stmt} {f : Addr} {fd : FuncData} {N ps : List Str} {k : Nat} {S : Sd} (F : Fun K x qual st f fd) (Sc : FnScope N ps (defScope st)) (len : ∀ ds R, S ds R → ds.length = ps.length)
    (body : ∀ (cdv : Value) (A : Around) (outer : List PySem.Env) (s : Shared) (H : Hp) (E : XK) (ds : List D) (R : D → Prop), Room k (A.deeper (envOfC qual (defScope st) s.heap.objs.size f cdv)) → S ds R →
      DSs (cxOf CX0 P w K mg base N qual (defScope st) f cdv A outer s H E).nox C none (defBody st) (startE N ds) { nx := fun _ => R .non, rt := R }) : FnOk P w K mg base CX0 (k + 1) f fd ps (SpP K C S) := by
  refine F.ok Sc (fun vs H Q E ⟨ds, R, r, h, _⟩ => r.length.trans (len ds R h)) (fun cdv A outer s H vs Q E hr ⟨ds, R, r, h, q⟩ => ⟨_, pSs, ?_⟩)
  exact body cdv A outer s H E ds R hr h _ H trivial (str_start r) _ ⟨fun σ' e' H' k' s' n => q .non .non H' k' .non n, fun v d H' k' rv n => q v d H' k' rv n, fun _ _ _ _ _ n => n.elim, fun _ _ _ _ _ n => n.elim⟩
theorem fn_tape {x qual : Str} {st : Stmt} {f : Addr} {fd : FuncData} {N ps : List Str} {k : Nat} {S : Sd} (F : Fun K x qual st f fd) (Sc : FnScope N ps (defScope st)) (len : ∀ ds R, S ds R → ds.length + 1 = ps.length)
    (body : ∀ (cdv : Value) (A : Around) (outer : List PySem.Env) (s : Shared) (H : Hp) (E : XK) (u : Tp) (ds : List D) (R : D → Prop), Room k (A.deeper (envOfC qual (defScope st) s.heap.objs.size f cdv)) → S ds R →
      DSs (cxOf CX0 P w K mg base N qual (defScope st) f cdv A outer s H E).nox C (some u) (defBody st) (startE N (.adr u.a :: ds)) { nx := fun _ => R .non, rt := R }) : FnOk P w K mg base CX0 (k + 1) f fd ps (SpT K C S) := by
  refine F.ok Sc (fun vs H Q E ⟨u, ws, ds, R, e, _, r, h, _⟩ => by rw [e, List.length_cons, r.length]; exact len ds R h) (fun cdv A outer s H vs Q E hr ⟨u, ws, ds, R, e, t, r, h, q⟩ => ⟨_, pSs, ?_⟩)
  subst e
  exact body cdv A outer s H E u ds R hr h _ H t (str_start (.cons (.adr _) r)) _ ⟨fun σ' e' H' k' s' n => q .non .non H' k' .non n, fun v d H' k' rv n => q v d H' k' rv n, fun _ _ _ _ _ n => n.elim, fun _ _ _ _ _ n => n.elim⟩
end
end WK
set_option maxRecDepth 100000
set_option maxHeartbeats 4000000
/-! for i, x in enumerate(t), t a tuple. -/
namespace WK
open PySem PySem.Spec PyProof.Rows L2
open Sem (wp)
open AutoSeq1 (wpAny_loadPart')
theorem meets_enum_one {v : Value} {o : Obj} {H : Heap → Prop} (B : Begins v o H) :
    Meets (Builtin.«enumerate.__new__» ⟨[.type "enumerate", v], []⟩) (fun _ Rv s => H s.heap ∧
      Rv (.ok (.ret (.ref (s.heap.push o).objs.size))) { s with heap := (s.heap.push o).push { cls := .type "enumerate", data := .fields #[.none, .bool false, .ref s.heap.objs.size, rawInt 0, .none, .none] } }) :=
  .of_wp fun prog w A Rv s h => by
    obtain ⟨hp0, g, d, tk, os⟩ := s
    obtain ⟨hh1, h⟩ := h
    have hsub := sub_enumerate
    have qit : ∀ {A' : Around} {E : Value → Shared → Prop} {Qv : Value → Shared → Prop}, Qv (.ref hp0.objs.size) ⟨hp0.push o, g, d, tk, os⟩ → wpAny (model prog w) A' (pyIter v) Qv E ⟨hp0, g, d, tk, os⟩ :=
      fun q => B.iter prog w _ _ ⟨hp0, g, d, tk, os⟩ _ hh1 q
    wp_walk using qit
    refine wpAny_stack_any fun stg => wpAny_pure ?_
    split
    · rename_i cv _ _ _ _ _
      cases (cv == Value.type "enumerate")
      · wp_walk using qit
        exact ⟨_, rfl, h⟩
      · wp_walk using qit
        exact ⟨_, rfl, h⟩
    · wp_walk using qit
      exact ⟨_, rfl, h⟩
section
variable {prog : Program} {w : World} {A : Around}
variable {s : Shared} {E : Value → Shared → Prop}
theorem call_enum_one {v : Value} {o : Obj} {H : Heap → Prop} {Qv : Value → Shared → Prop} (B : Begins v o H) (hh1 : H s.heap)
    (h : ∀ h', IsEnum h' (s.heap.objs.size + 1) s.heap.objs.size 0 .none → h'.get? s.heap.objs.size = some o → h'.objs.size = s.heap.objs.size + 2 →
      (∀ b o, s.heap.get? b = some o → h'.get? b = some o) → Qv (.ref (s.heap.objs.size + 1)) { s with heap := h' }) :
    wpAny (model prog w) A (call (.type "enumerate") [v]) Qv E s := by
  refine callType_new F.called_enumerate (by decide)
    (F.typeCall_enumerate_1 _) (F.newCall_enumerate_1 _) (fun obj => F.args_object_init_2 obj _) F.entry_enumerate_new
    (meets_enum_one B) ⟨hh1, ?_⟩
  have hZz : (s.heap.push o).objs.size = s.heap.objs.size + 1 := Heap.size_push ..
  show _ ∧ _
  rw [hZz]
  have hEn : IsEnum ((s.heap.push o).push { cls := .type "enumerate", data := .fields #[.none, .bool false, .ref s.heap.objs.size, rawInt 0, .none, .none] }) (s.heap.objs.size + 1) s.heap.objs.size 0 .none := by
    have := Heap.get?_push_size (s.heap.push o) (o := { cls := .type "enumerate", data := .fields #[.none, .bool false, .ref s.heap.objs.size, rawInt 0, .none, .none] }) rfl
    rw [hZz] at this; exact this
  refine ⟨⟨_, hEn, rfl⟩, h _ hEn (Heap.get?_push_of_some _ (Heap.get?_push_size _ B.free)) (by rw [Heap.size_push, hZz]) fun b o x => Heap.get?_push_of_some _ (Heap.get?_push_of_some _ x)⟩
end
def IteT (K : PySem.W.Frag) (a : Addr) : It :=
  ⟨fun i H => ∃ (xs : List V) (x : V), SqT K H a xs ∧ xs[i]? = some x, fun i H v H' => ∃ T x, v = .ref T ∧ H T = none ∧ H' = upd H T (.tup [.int (i : Nat), x]) ∧ ∀ xs, SqT K H a xs → xs[i]? = some x, fun i H => ∃ xs : List V, SqT K H a xs ∧ xs.length = i⟩
theorem turn_enumT {P : Program} {w : World} {K : PySem.W.Frag} {elts : List Expr} {kk : Nat} {tps : Pos} (a e it : Addr) :
    Turn P w K (.Tuple elts kk tps) (IteT K a) [e, it] e (fun i h => (∃ oldv, IsEnum h e it ((i : Nat) : Int) oldv) ∧ h.IsTupleIter it a i ∧ e ≠ it) where
  mem := by simp
  obj := fun i h stg b hBm => by
    obtain ⟨⟨oldv, hEn⟩, ⟨o, hOb, hc, hDd⟩, _⟩ := stg
    have eOr : b = e ∨ b = it := by simpa using hBm
    rcases eOr with zz | zz
    · rw [zz]; exact ⟨_, hEn, fun v q => nomatch q⟩
    · rw [zz]; exact ⟨o, hOb, fun v q => by rw [hDd] at q; cases q⟩
  keep := fun i h h' stg k => let ⟨⟨oldv, hEn⟩, hi, hNe⟩ := stg; ⟨⟨oldv, k e (by simp) _ hEn⟩, hi.at fun o q => k it (by simp) o q, hNe⟩
  item := by
    intro X hP hw hK hc i pins s σ H E I hFp stg hGo
    subst hP hw hK
    obtain ⟨⟨oldv, hEn⟩, hTi, hNe⟩ := stg
    obtain ⟨xs, x, hSq, hXx⟩ := hGo
    obtain ⟨itm, rvs, p, hZz⟩ := I.tuple hSq
    obtain ⟨u, hUu, rUu⟩ := rvs.get hXx
    have hLe : e < s.heap.objs.size := Heap.lt_size hEn
    have hLi : it < s.heap.objs.size := by obtain ⟨_, q, _⟩ := hTi; exact Heap.lt_size q
    have hLt : i < itm.toArray.size := by
      have := (List.getElem?_eq_some_iff.mp hUu).1
      simpa using this
    have hta : a ≠ it := fun zz => by
      subst zz
      obtain ⟨o1, qit, q2, q3⟩ := hTi
      obtain ⟨o2, p1, p2, n, p3⟩ := p
      rw [qit] at p1; cases p1
      rw [q3] at p3; cases p3
    have hea : e ≠ a := fun zz => by
      subst zz
      obtain ⟨o2, p1, p2, n, p3⟩ := p
      have he' : s.heap.get? e = some _ := hEn
      rw [p1] at he'
      cases he'
      cases p3
    have hpT : s.heap.IsTuple a itm.toArray := p
    have Dd : Draws X.prog X.w X.A.in1 it [it, a] itm.toArray.size (fun i v => itm.toArray[i]? = some v) (fun i h => h.IsTupleIter it a i ∧ h.IsTuple a itm.toArray) := Draws.tuple (A := X.A.in1) (show X.A.in1.handled = none from I.ok.hd hc) it a hta itm.toArray
    refine wpAny_pyNext_enum_itemD Dd hEn ⟨hTi, hpT⟩ hLt hNe (by simp [hNe, hea]) fun y h' tk hy hOb hst' hT hsz hk => ?_
    have hyu : y = u := by
      have hh1 : itm.toArray[i]? = some u := by simpa using hUu
      have hy : itm.toArray[i]? = some y := hy
      rw [hy] at hh1; exact Option.some.inj hh1
    subst hyu
    refine ⟨_, rfl, wpAny_letOwnedTupleGo_enum (s := { s with heap := h', toks := tk + 1 }) hOb fun h'' he' sBb => ?_⟩
    have hT2 : h''.get? s.heap.objs.size = some { cls := .type "tuple", data := .seq #[.int i tk, y] } := (sBb.2 _ (Nat.ne_of_gt hLe)).trans hT
    have newO : ObjOk X.prog X.w (upd H s.heap.objs.size (.tup [.int (i : Nat), x])) h'' s.heap.objs.size (.tup [.int (i : Nat), x]) :=
      ⟨by show 2 ≤ sizeLine; decide, [.int i tk, y], .cons ⟨_, rfl⟩ (.cons rUu .nil), ⟨_, hT2, rfl, _, rfl⟩⟩
    have Iv1 : Inv X pins σ (upd H s.heap.objs.size (.tup [.int (i : Nat), x])) { s with heap := h'', toks := tk + 1 } :=
      I.turnedNew (ch := [e, it]) (fun b ob hBm q => (sBb.2 b (fun zz => hBm (by simp [zz]))).trans (hk b ob (fun zz => hBm (by simp [zz])) (fun zz => hBm (by simp [zz])) q)) hFp (Nat.le_refl _) newO
    refine ⟨.ref s.heap.objs.size, _, Iv1, rfl, ⟨_, x, rfl, I.hok.fresh (Nat.le_refl _), rfl, fun ys hy => by rw [I.tuple_inj hy hSq]; exact hXx⟩, ⟨⟨y, ?_⟩, hst'.1.at fun o q => (sBb.2 it (Ne.symm hNe)).trans q, hNe⟩, fun b hBm => ?_⟩
    · have eqA : ((i + 1 : Nat) : Int) = (i : Int) + 1 := by omega
      rw [eqA]; exact he'
    · have hBm2 : b < s.heap.objs.size := by
        have eOr : b = e ∨ b = it := by simpa using hBm
        rcases eOr with zz | zz
        · rw [zz]; exact hLe
        · rw [zz]; exact hLi
      rw [upd_ne (Nat.ne_of_lt hBm2)]
      exact (hFp b hBm).1
  done := by
    intro X hP hw hK hc i pins s σ H E I hFp stg hGo
    subst hP hw hK
    obtain ⟨⟨oldv, hEn⟩, hTi, hNe⟩ := stg
    obtain ⟨xs, hSq, hXx⟩ := hGo
    obtain ⟨itm, rvs, p, hZz⟩ := I.tuple hSq
    obtain ⟨fa, fb, fc, fd, fe, ff⟩ := hFp it (by simp)
    have hLn := rvs.length
    have hta : a ≠ it := fun zz => by
      subst zz
      obtain ⟨o1, qit, q2, q3⟩ := hTi
      obtain ⟨o2, p1, p2, n, p3⟩ := p
      rw [qit] at p1; cases p1
      rw [q3] at p3; cases p3
    have hpT : s.heap.IsTuple a itm.toArray := p
    have Dd : Draws X.prog X.w X.A.in1 it [it, a] itm.toArray.size (fun i v => itm.toArray[i]? = some v) (fun i h => h.IsTupleIter it a i ∧ h.IsTuple a itm.toArray) := Draws.tuple (A := X.A.in1) (show X.A.in1.handled = none from I.ok.hd hc) it a hta itm.toArray
    have hn : i = itm.toArray.size := by rw [List.size_toArray, ← hLn, hXx]
    subst hn
    exact wpAny_pyNext_enum_endD Dd hEn ⟨hTi, hpT⟩ fun h' eb => ⟨rfl, I.turned (t' := s.toks) (fun b o hBm q => eb b o hBm q) fa fb fd fe ff⟩
  self := fun A i s Qv E stg h => let ⟨⟨_, hEn⟩, _⟩ := stg; wpAny_pyIter_enum hEn h
def iEnumT (K : PySem.W.Frag) (ta : TA) : TI := fun σ H Rv => ta σ H fun vs H1 => ∃ a xs, vs = [.ref a] ∧ SqT K H1 a xs ∧ Rv (IteT K a) H1
theorem pi_enumT {X : Cx} {e : Expr} {ta : TA} {p pos tps : Pos} {elts : List Expr} {kk : Nat} (hGo : Gl X "enumerate") (hm : X.mg "enumerate" = none) (ha : PA X [e] ta) (hs : starEach [e] X.env = [(false, eval e X.env)] := by rfl) :
    PI X (.Tuple elts kk tps) (.Call (.Name "enumerate" p) [e] [] pos) (iEnumT X.K ta) := by
  refine ⟨fun pins s σ H Rv I h => ?_⟩
  refine Call_ (ld_blt I hGo hm PyProof.Rows.boot_enumerate (PyProof.Rows.callWith_type1 (thn (ha.run pos pins s σ H _ I h) fun us sg1 ⟨vs, H1, Iv1, r1, qit⟩ => ?_) hs rfl))
  obtain ⟨a, xs, eqV1, hSq, q⟩ := qit
  subst eqV1
  cases r1 with
  | cons r rr =>
    cases rr
    cases r
    obtain ⟨itm, rvs, p', hZz⟩ := Iv1.tuple hSq
    have hpT : sg1.heap.IsTuple a itm.toArray := p'
    refine call_enum_one (begins_tuple a itm.toArray) hpT fun h' hEn hTi hsz hk => wpAny_pyIter_enum hEn ?_
    have Iv2 : Inv X pins σ H1 { sg1 with heap := h' } := Iv1.kept (t' := sg1.toks) hk
    refine ⟨sg1.heap.objs.size + 1, [sg1.heap.objs.size + 1, sg1.heap.objs.size], _, _, H1, rfl, Iv2, turn_enumT a (sg1.heap.objs.size + 1) sg1.heap.objs.size, ⟨⟨.none, hEn⟩, ⟨_, hTi, rfl, rfl⟩, Nat.succ_ne_self _⟩, fun b hBm => ?_, q⟩
    have eOr : b = sg1.heap.objs.size + 1 ∨ b = sg1.heap.objs.size := by simpa using hBm
    have hLeq : sg1.heap.objs.size ≤ b := by
      rcases eOr with zz | zz
      · rw [zz]; exact Nat.le_add_right _ _
      · rw [zz]; exact Nat.le_refl _
    exact Iv1.fpOk hLeq (Iv1.hok.fresh hLeq)
theorem for_enumT {K : PySem.W.Frag} {a : Addr} {xs : List V} {g : TG} {tb : TS} {Dd : Ends} {σ : L2.St} {H : Hp} (Pvv : Nat → L2.St → Hp → Prop) (h0 : Pvv 0 σ H) (hLn : ∀ i σ H, i ≤ xs.length → Pvv i σ H → SqT K H a xs)
    (hs : ∀ i x T σ H, xs[i]? = some x → Pvv i σ H → H T = none → g (.ref T) σ (upd H T (.tup [.int (i : Nat), x])) fun σ2 H2 => tb { Dd with nx := Pvv (i + 1), ct := Pvv (i + 1), bk := Dd.nx } σ2 H2) (hDd : ∀ σ H, Pvv xs.length σ H → Dd.nx σ H) :
    ∃ W : Nat → Nat → L2.St → Hp → Prop, (∃ m, W 0 m σ H) ∧
      ∀ i m σ H, W i m σ H → ((IteT K a).stop i H ∧ Dd.nx σ H) ∨ ((IteT K a).go i H ∧ ∃ N : L2.St → Hp → Prop, (∀ σ' H', N σ' H' → ∃ m', m' < m ∧ W (i + 1) m' σ' H') ∧ ∀ x H', (IteT K a).yld i H x H' → g x σ H' fun σ2 H2 => tb { Dd with nx := N, ct := N, bk := Dd.nx } σ2 H2) := by
  refine ⟨fun i m σ H => m = xs.length - i ∧ i ≤ xs.length ∧ Pvv i σ H, ⟨xs.length, by simp, Nat.zero_le _, h0⟩, ?_⟩
  rintro i m σ H ⟨rfl, hi, p⟩
  have q := hLn i σ H hi p
  by_cases hLt : i < xs.length
  · refine .inr ⟨⟨xs, xs[i], q, by simp [hLt]⟩, Pvv (i + 1), fun σ' H' p' => ⟨xs.length - (i + 1), by omega, rfl, hLt, p'⟩, fun x H' y => ?_⟩
    obtain ⟨T, zz, rfl, hT, rfl, y⟩ := y
    exact hs i zz T σ H (y xs q) p hT
  · have e : i = xs.length := by omega
    subst e
    exact .inl ⟨⟨xs, q, rfl⟩, hDd σ H p⟩
end WK
set_option maxRecDepth 100000
set_option maxHeartbeats 4000000
/-! A list that is built, item behind item, and then made a tuple. -/
namespace WK
open PySem PySem.Spec PyProof.Rows L2
structure Bld (K : PySem.W.Frag) (C : Addr) (M : Option Tp) (i : Nat) (H0 H : Hp) (σ : L2.St) (p : Addr) (ds : List D) : Prop where
  g : Good K M H0
  f : H0 p = none
  k : Keep K M H0 H
  l : ∃ vs, H p = some (.lst vs) ∧ RpAll K C H vs ds
  s : σ[i]? = some (some (.ref p))
/-- tuples and records stand -/
structure Fm (K : PySem.W.Frag) (C : Addr) (H H' : Hp) : Prop where
  t : ∀ a xs, SqT K H a xs → SqT K H' a xs
  o : ∀ a dx fs, H a = some (.ins C dx fs) → H' a = some (.ins C dx fs)
theorem Fm.refl {K : PySem.W.Frag} {C : Addr} {H : Hp} : Fm K C H H := ⟨fun _ _ h => h, fun _ _ _ h => h⟩
theorem Fm.trans {K : PySem.W.Frag} {C : Addr} {H H1 H2 : Hp} (a : Fm K C H H1) (b : Fm K C H1 H2) : Fm K C H H2 := ⟨fun x xs h => b.t x xs (a.t x xs h), fun x dx fs h => b.o x dx fs (a.o x dx fs h)⟩
theorem Keep.fm {K : PySem.W.Frag} {C : Addr} {M : Option Tp} {H H' : Hp} (k : Keep K M H H') : Fm K C H H' := ⟨fun _ _ h => k.sqT h, fun _ _ _ h => k.stands h (by intro L p n t q; cases q)⟩
/-- what a statement makes of the slots and of the list -/
def BS (X : Cx) (C : Addr) (M : Option Tp) (i : Nat) (t : TS) (env : Env) (ds : List D) (E : Env → List D → Prop) : Prop :=
  ∀ σ H H0 p, Bld X.K C M i H0 H σ p ds → StR X.K C H σ env → ∀ De : Ends, (∀ σ' env' H' ds', Bld X.K C M i H0 H' σ' p ds' → Fm X.K C H H' → StR X.K C H' σ' env' → E env' ds' → De.nx σ' H') → t De σ H
def envSolid (env : Env) : Prop := ∀ d, some d ∈ env → d.solid = true
section
variable {X : Cx} {C : Addr} {M : Option Tp} {i : Nat} {env : Env} {ds : List D} {E : Env → List D → Prop} {e c : Expr} {pos p : Pos}
theorem Bld.good {K : PySem.W.Frag} {H0 H : Hp} {σ : L2.St} {q : Addr} (b : Bld K C M i H0 H σ q ds) : Good K M H := b.k.good
theorem Bld.keep {K : PySem.W.Frag} {H0 H H2 : Hp} {σ : L2.St} {q : Addr} (b : Bld K C M i H0 H σ q ds) (k : Keep K M H H2) : Bld K C M i H0 H2 σ q ds := by
  obtain ⟨vs, h1, h2⟩ := b.l
  exact ⟨b.g, b.f, b.k.trans k, ⟨vs, Keep.mine b.g b.f k h1, k.rps h2⟩, b.s⟩
theorem Bld.put {K : PySem.W.Frag} {H0 H : Hp} {σ : L2.St} {q : Addr} (b : Bld K C M i H0 H σ q ds) {j : Nat} (h : j ≠ i) (v : Option V) : Bld K C M i H0 H (σ.set j v) q ds := ⟨b.g, b.f, b.k, b.l, by rw [List.getElem?_set_ne h]; exact b.s⟩
theorem StR.firm {K : PySem.W.Frag} {H H' : Hp} {σ : L2.St} (s : StR K C H σ env) (hs : envSolid env) (ht : ∀ a xs, SqT K H a xs → SqT K H' a xs) (ho : ∀ a dx fs, H a = some (.ins C dx fs) → H' a = some (.ins C dx fs)) : StR K C H' σ env := ⟨s.len, fun j d e => by
  obtain ⟨v, h1, h2⟩ := s.get j d e
  exact ⟨v, h1, Rp.firm ht ho d v (hs d (List.mem_of_getElem? e)) h2⟩⟩
theorem bs_append {x : Str} {p1 p2 p3 : Pos} (hN : X.N[i]? = some x) (hv : Vis X.env.scope x) (hs : envSolid env) (hds : D.solids ds = true) (hl : ds.length ≤ 100000)
    (h : DE X C M e env fun d => d.solid = true ∧ E env (ds ++ [d])) (hd : (x == ("__debug__" : Str)) = false := by decide) (hcd : (x == ("__classdict__" : Str)) = false := by decide)
    (hb : attributeBase (.Name x p) "append" X.env (eval (.Name x p) X.env) = eval (.Name x p) X.env := by rfl)
    (hfew : ((backTo p2 (starEach [e] X.env)).all (fun x => !x.1) && (backToKw p2 (keywordEach [] X.env)).all (fun x => x.1.isSome) && decide (([e] : List Expr).length + ([] : List Keyword).length + (if ([] : List Keyword).isEmpty then 0 else 1) < 30)) = true := by rfl)
    (hline : (p1.endLine == p2.line) = true := by rfl) (hst : starEach [e] X.env = [(false, eval e X.env)] := by rfl) (hsw : swapsWith (.Call (.Attribute (.Name x p) "append" p1) [e] [] p2) none p3.line X.env = pure false := by rfl) :
    BS X C M i (wS X (.Expr (.Call (.Attribute (.Name x p) "append" p1) [e] [] p2) p3)) env ds E := fun σ H H0 q b s De l pins sh I =>
  (ps_expr (pe_bm PySem.F.plainAttrs_list PySem.F.slot_list_append PySem.F.type_list_append mt_append (pe_var hN hv hd hcd) (pa_cons pE pa_nil (hs := hst)) (hbase := hb) (hfew := hfew) (hline := hline) (hs := hst)) (hs := hsw)).run pins sh σ H De I (by
    obtain ⟨vs, h1, h2⟩ := b.l
    refine ⟨.ref q, b.s, ⟨.inl ⟨rfl, vs, .inl (.inl h1)⟩, ?_⟩⟩
    refine h σ H b.good s _ fun v d H2 k2 r2 ⟨hsol, hE⟩ => ?_
    have b2 := b.keep k2
    obtain ⟨ws, h3, h4⟩ := b2.l
    have hw : ws.length < 100001 := by rw [h4.length]; omega
    refine ⟨q, ws, v, rfl, rfl, h3, Nat.lt_of_lt_of_le hw (by decide), ?_⟩
    refine l σ env _ (ds ++ [d]) ⟨b.g, b.f, Keep.fill (vs := ws) b.g b.f b2.k, ⟨ws ++ [v], upd_same, ?_⟩, b.s⟩ ((Keep.fm k2).trans ⟨fill_sqT h3, fill_ins h3⟩) (StR.firm (s.keep k2) hs (fill_sqT h3) (fill_ins h3)) hE
    exact (RpAll.firm (fill_sqT h3) (fill_ins h3) _ _ hds h4).append (.cons (Rp.firm (fill_sqT h3) (fill_ins h3) _ _ hsol r2) .nil))
theorem bss_nil (q : E env ds) : BS X C M i (wSs X []) env ds E := fun σ H H0 p b s De l pins sh I => pss_nil.run pins sh σ H De I (l σ env H ds b .refl s q)
theorem bss_cons {st : Stmt} {rest : List Stmt} (h : BS X C M i (wS X st) env ds fun env' ds' => BS X C M i (wSs X rest) env' ds' E) : BS X C M i (wSs X (st :: rest)) env ds E := fun σ H H0 p b s De l pins sh I =>
  (pss_cons pS pSs).run pins sh σ H De I (h σ H H0 p b s _ fun σ' env' H' ds' b' f' s' q => q σ' H' H0 p b' s' De fun σ2 e2 H2 d2 b2 f2 => l σ2 e2 H2 d2 b2 (f'.trans f2))
theorem bs_if {s1 s2 : List Stmt} (h : DT X C M c env fun k => if k = true then BS X C M i (wSs X s1) env ds E else BS X C M i (wSs X s2) env ds E) : BS X C M i (wS X (.If c s1 s2 pos)) env ds E := fun σ H H0 p b s De l pins sh I =>
  (ps_if pT pSs pSs).run pins sh σ H De I (h σ H b.good s _ fun k H1 k1 h1 => by
    cases k with
    | true => exact h1 σ H1 H0 p (b.keep k1) (s.keep k1) De fun σ2 e2 H2 d2 b2 f2 => l σ2 e2 H2 d2 b2 ((Keep.fm k1).trans f2)
    | false => exact h1 σ H1 H0 p (b.keep k1) (s.keep k1) De fun σ2 e2 H2 d2 b2 f2 => l σ2 e2 H2 d2 b2 ((Keep.fm k1).trans f2))
theorem bs_forR {x : Str} {px pr pr2 : Pos} {body : List Stmt} (j : Nat) (J : Nat → Env → List D → Prop) (hp : PassesOwn (model X.prog X.w) X.A X.env X.xe) (hc : X.calm = true) (hN : X.N.Nodup) (hj : X.N[j]? = some x) (hji : j ≠ i) (hx : Loc X.env.scope x) (hg : Gl X "range") (hm : X.mg "range" = none)
    (h : DE X C M e env fun y => ∃ n : Nat, y = .int n ∧ n ≤ 1000000 ∧ J 0 env ds ∧ (∀ t env' ds', t < n → J t env' ds' → BS X C M i (wSs X body) (env'.set j (some (.int t))) ds' (J (t + 1))) ∧ (∀ env' ds', J n env' ds' → E env' ds'))
    (hf : X.fn x = true ∨ X.env.scope.names.lookup x = some .local := by first | exact .inl rfl | exact .inr rfl) (hs : ∀ x, foldedSetIterable (.Call (.Name "range" pr) [e] [] pr2) X.env x = pure x := by intro _; rfl) (hs2 : starEach [e] X.env = [(false, eval e X.env)] := by rfl) :
    BS X C M i (wS X (.For (.Name x px) (.Call (.Name "range" pr) [e] [] pr2) body [] pos)) env ds E := fun σ H H0 q b s De l pins sh I =>
  (ps_for hp hc (pi_range1 hg hm (pa_cons pE pa_nil (hs := hs2)) hs2) (pg_name hN hj hx hf) pSs hs).run pins sh σ H De I (h σ H b.good s _ fun v y H1 k1 r1 ⟨n, e, hn, h0, h1, h2⟩ => by
    subst e
    cases r1
    refine ⟨n, rfl, by omega, by omega, for_range (n := (n : Int).toNat) (fun t σ' H' => Fm X.K C H H' ∧ ∃ env' ds', Bld X.K C M i H0 H' σ' q ds' ∧ StR X.K C H' σ' env' ∧ J t env' ds') ⟨k1.fm, env, ds, b.keep k1, s.keep k1, h0⟩ (fun t σ' H' ht ⟨fm, env', ds', b', s', hJ⟩ => ?_) (fun σ' H' ⟨fm, env', ds', b', s', hJ⟩ => ?_)⟩
    · have s2 : StR X.K C H' (σ'.set j (some (.int (0 + t)))) (env'.set j (some (.int t))) := s'.set j (by rw [Int.zero_add]; exact .int _)
      exact h1 t env' ds' (by omega) hJ _ H' H0 q (b'.put hji _) s2 _ fun σ3 e3 H3 d3 b3 f3 s3 q3 => ⟨fm.trans f3, e3, d3, b3, s3, q3⟩
    · rw [Int.toNat_natCast] at hJ
      exact l σ' env' H' ds' b' fm s' (h2 env' ds' hJ))
theorem bs_forE {x y : Str} {px py pt pr pr2 : Pos} {kt : Nat} {body : List Stmt} (j m : Nat) (J : Nat → Env → List D → Prop) (hp : PassesOwn (model X.prog X.w) X.A X.env X.xe) (hc : X.calm = true) (hN : X.N.Nodup) (hj : X.N[j]? = some x) (hm : X.N[m]? = some y) (hji : j ≠ i) (hmi : m ≠ i)
    (hx : X.env.scope.names.lookup x = some .local) (hy : X.env.scope.names.lookup y = some .local) (hg : Gl X "enumerate") (hmg : X.mg "enumerate" = none)
    (h : DE X C M e env fun v => ∃ xs, v = .tup xs ∧ D.solids xs = true ∧ J 0 env ds ∧ (∀ t env' ds' d, J t env' ds' → xs[t]? = some d → BS X C M i (wSs X body) ((env'.set j (some (.int t))).set m (some d)) ds' (J (t + 1))) ∧ (∀ env' ds', J xs.length env' ds' → E env' ds'))
    (hn : (assignEach [.Name x px, .Name y py] X.env).length = 2 := by rfl) (hst : (assignEach [.Name x px, .Name y py] X.env).findIdx? (·.1) = none := by rfl)
    (hs : ∀ x, foldedSetIterable (.Call (.Name "enumerate" pr) [e] [] pr2) X.env x = pure x := by intro _; rfl) (hs2 : starEach [e] X.env = [(false, eval e X.env)] := by rfl)
    (ha1 : (assignEach [.Name x px, .Name y py] X.env).map (·.2) = assign (.Name x px) X.env :: (assignEach [.Name y py] X.env).map (·.2) := by rfl) (ha2 : (assignEach [.Name y py] X.env).map (·.2) = assign (.Name y py) X.env :: (assignEach [] X.env).map (·.2) := by rfl) :
    BS X C M i (wS X (.For (.Tuple [.Name x px, .Name y py] kt pt) (.Call (.Name "enumerate" pr) [e] [] pr2) body [] pos)) env ds E := fun σ H H0 q b s De l pins sh I =>
  (ps_for hp hc (pi_enumT hg hmg (pa_cons pE pa_nil (hs := hs2)) hs2) (pg_tup hc (pgs_cons (pg_name (i := j) hN hj (.inl hx) (.inr hx)) (pgs_cons (pg_name (i := m) hN hm (.inl hy) (.inr hy)) pgs_nil (hs := ha2)) (hs := ha1)) hn hst) pSs hs).run pins sh σ H De I (h σ H b.good s _ fun v z H1 k1 r1 ⟨xs, e, hxs, h0, h1, h2⟩ => by
    subst e
    cases r1 with
    | @tup a' us _ hq hr =>
    refine ⟨a', us, rfl, hq, for_enumT (xs := us) (fun t σ' H' => Fm X.K C H H' ∧ SqT X.K H' a' us ∧ RpAll X.K C H' us xs ∧ ∃ env' ds', Bld X.K C M i H0 H' σ' q ds' ∧ StR X.K C H' σ' env' ∧ J t env' ds') ?_ (fun t σ' H' _ ⟨_, k, _⟩ => k) (fun t u T σ' H' hu ⟨fm, kq, kr, env', ds', b', s', hJ⟩ hT => ?_) (fun σ' H' ⟨fm, _, _, env', ds', b', s', hJ⟩ => ?_)⟩
    · exact ⟨k1.fm, hq, hr, env, ds, b.keep k1, s.keep k1, h0⟩
    · obtain ⟨d, hd, rd⟩ := kr.getV hu
      have kT := Keep.new (M := M) (o := .tup [.int (t : Nat), u]) b'.good hT
      refine ⟨T, _, rfl, .inl (.inl upd_same), rfl, _, _, rfl, _, _, rfl, rfl, ?_⟩
      have b2 := ((b'.keep kT).put hji (some (.int (t : Nat)))).put hmi (some u)
      have s2 := ((s'.keep kT).set j (.int (t : Nat))).set m (kT.rp rd)
      exact h1 t env' ds' d hJ hd _ _ H0 q b2 s2 _ fun σ3 e3 H3 d3 b3 f3 s3 q3 => ⟨(fm.trans (Keep.fm kT)).trans f3, f3.t _ _ (kT.sqT kq), RpAll.firm f3.t f3.o _ _ hxs (kT.rps kr), e3, d3, b3, s3, q3⟩
    · rw [hr.length] at hJ
      exact l σ' env' H' ds' b' fm s' (h2 env' ds' hJ))
/-- name = [], statements that build it, return tuple(name) -/
theorem dss_build {x : Str} {px pl p1 p2 p3 p4 : Pos} {st : Stmt} {E : DEnds} (i : Nat) (hN : X.N.Nodup) (hi : X.N[i]? = some x) (hx : X.env.scope.names.lookup x = some .local) (hg : Gl X "tuple") (hm : X.mg "tuple" = none) (he : env[i]? = some none)
    (h : BS X C M i (wS X st) env [] fun env' ds' => E.rt (.tup ds')) (hsw : swapsWith (.List [] pl) (some (.Name x px)) pos.line X.env = pure false := by rfl)
    (hst : starEach [.Name x p1] X.env = [(false, eval (.Name x p1) X.env)] := by rfl) (hd : (x == ("__debug__" : Str)) = false := by decide) (hcd : (x == ("__classdict__" : Str)) = false := by decide) :
    DSs X C M [.Assign [.Name x px] (.List [] pl) pos, st, .Return (some (.Call (.Name "tuple" p2) [.Name x p1] [] p3)) p4] env E := fun σ H g s De l pins sh I =>
  (pss_cons (ps_set hN hi (.inl hx) (pe_lst pa_nil) hsw (.inr hx)) (pss_cons (pS (st := st)) (pss_cons (ps_ret (pe_callTy call_tuple_of hg hm PyProof.Rows.boot_tuple (pa_cons (pe_var hi (.inl hx) hd hcd) pa_nil (hs := hst)) (he := hst))) pss_nil))).run pins sh σ H De I (by
    refine ⟨Nat.zero_le _, fun q nq => ?_⟩
    have kn := Keep.new (M := M) (o := .lst []) g nq
    have hlen : i < σ.length := by
      rw [s.len]
      exact (List.getElem?_eq_some_iff.mp he).1
    have s2 : StR X.K C (upd H q (.lst [])) (σ.set i (some (.ref q))) env := ⟨by rw [List.length_set]; exact s.len, fun j d e => by
      by_cases hj : i = j
      · subst hj; rw [he] at e; cases e
      · obtain ⟨v, h1, h2⟩ := s.get j d e
        exact ⟨v, by rw [List.getElem?_set_ne hj]; exact h1, kn.rp h2⟩⟩
    have b : Bld X.K C M i H (upd H q (.lst [])) (σ.set i (some (.ref q))) q [] := ⟨g, nq, kn, ⟨[], upd_same, .nil⟩, List.getElem?_set_self hlen⟩
    refine h _ _ H q b s2 _ fun σ' env' H' ds' b' f' s' q' => ?_
    obtain ⟨vs, h1, h2⟩ := b'.l
    refine ⟨.ref q, b'.s, ⟨q, vs, rfl, .inl ⟨.inl (.inl h1), fun t nt => ?_⟩⟩⟩
    have kt := Keep.new (M := M) (o := .tup vs) b'.good nt
    exact l.rt _ _ _ (b'.k.trans kt) (.tup (.inl (.inl upd_same)) (kt.rps h2)) q')
end
end WK
set_option maxRecDepth 100000
set_option maxHeartbeats 4000000
/-! The program's text; how its data is told. -/
namespace WK
open PySem PySem.Spec PyProof.Rows L2
def topS (i : Nat) : Stmt := PySem.Challenge.pw_litmuscore_k54_whole_lines_are_obtained.main.body.getD i (.Pass ⟨0, 0, 0, 0⟩)
structure Dfn (K : PySem.W.Frag) (mg : Str → Option Value) (x : Str) (st : Stmt) (ps : List Str) (f : Addr) (fd : FuncData) : Prop where
  F : Fun K x x st f fd
  g : mg x = some (.ref f)
  b : Binds K fd ps []
/-- a def is there, and keeps its promise -/
structure Has (P : Program) (w : World) (K : PySem.W.Frag) (mg : Str → Option Value) (base : Heap) (k : Nat) (x : Str) (ps : List Str) (sp : Sp) : Prop where
  ex : ∃ (f : Addr) (fd : FuncData), mg x = some (.ref f) ∧ PySem.W.keepIn K (.ref f) = true ∧ Binds K fd ps [] ∧ FnOk P w K mg base CX0 k f fd ps sp
section
variable {P : Program} {w : World} {K : PySem.W.Frag} {mg : Str → Option Value} {base : Heap} {C : Addr}
theorem has_of {k : Nat} {x : Str} {st : Stmt} {ps : List Str} {f : Addr} {fd : FuncData} {sp : Sp} (D : Dfn K mg x st ps f fd) (h : FnOk P w K mg base CX0 k f fd ps sp) : Has P w K mg base k x ps sp := ⟨f, fd, D.g, D.F.kp, D.b, h⟩
end
section
variable {X : Cx} {C : Addr} {M : Option Tp} {env : Env} {e : Expr} {es : List Expr} {pos p : Pos}
theorem de_callH {Q : D → Prop} {x : Str} {k : Nat} {ps : List Str} {S : Sd} (h : Has X.prog X.w X.K X.mg X.base k x ps (SpP X.K C S)) (hr : Room k X.A) (hg : Gl X x)
    (q : DA X C M (e :: es) env fun ds => S ds Q) (hd : (x == ("__debug__" : Str)) = false := by decide) (he : starEach (e :: es) X.env = (false, eval e X.env) :: starEach es X.env := by rfl) (hpl : (backTo pos (starEach es X.env)).any (·.1) = false := by rfl) : DE X C M (.Call (.Name x p) (e :: es) [] pos) env Q := by
  obtain ⟨f, fd, hm, hk, hb, F⟩ := h.ex
  exact de_call F hr hg hm hk hb q hd he hpl
theorem de_callHT {Q : D → Prop} {x : Str} {k : Nat} {ps : List Str} {S : Sd} {u : Tp} (h : Has X.prog X.w X.K X.mg X.base k x ps (SpT X.K C S)) (hr : Room k X.A) (hg : Gl X x)
    (q : DA X C (some u) (e :: es) env fun ds => ∃ ds', ds = .adr u.a :: ds' ∧ S ds' Q) (hd : (x == ("__debug__" : Str)) = false := by decide) (he : starEach (e :: es) X.env = (false, eval e X.env) :: starEach es X.env := by rfl) (hpl : (backTo pos (starEach es X.env)).any (·.1) = false := by rfl) : DE X C (some u) (.Call (.Name x p) (e :: es) [] pos) env Q := by
  obtain ⟨f, fd, hm, hk, hb, F⟩ := h.ex
  exact de_callT F hr hg hm hk hb q hd he hpl
/-- a constant of the module's -/
structure Glb (K : PySem.W.Frag) (C : Addr) (mg : Str → Option Value) (x : Str) (d : D) : Prop where
  ex : ∃ (v : V) (u : Value), mg x = some u ∧ RelV v u ∧ ∀ H, Rp K C H v d
theorem de_glb {Q : D → Prop} {x : Str} {d : D} (hg : Gl X x) (h : Glb X.K C X.mg x d) (q : Q d) (hd : (x == ("__debug__" : Str)) = false := by decide) : DE X C M (.Name x p) env Q := by
  obtain ⟨v, u, h1, h2, h3⟩ := h.ex
  exact de_of (pe_glob hg h1 h2 hd) fun σ H g s Q' l => l v d H (Keep.refl g) (h3 H) q
end
section
variable {X : Cx} {C : Addr} {M : Option Tp} {env env' : Env} {pos : Pos}
structure VarOk (sc : Scope) (x : Str) : Prop where
  v : Vis sc x
  d : (x == ("__debug__" : Str)) = false
  c : (x == ("__classdict__" : Str)) = false
theorem de_v {Q : D → Prop} {x : Str} {d : D} (i : Nat) (hN : X.N[i]? = some x) (he : env[i]? = some (some d)) (h : VarOk X.env.scope x) (q : Q d) : DE X C M (.Name x pos) env Q := de_var i hN he h.v q h.d h.c
theorem dss_env {sts : List Stmt} {E : DEnds} (h : env = env') (q : DSs X C M sts env' E) : DSs X C M sts env E := by rw [h]; exact q
end
/-! ### the memory system as Python's data -/
open LK (S3 MK Msg Cfg Cache Serv Home Sys)
def stS : S3 → Str
  | .S => "shared"
  | .E => "exclusive"
  | .M => "modified"
def optW : Option Nat → D
  | none => .non
  | some w => .blob w
def optI : Option Nat → D
  | none => .non
  | some k => .int k
def natD (k : Nat) : D := .int k
def entT {β : Type} (f : β → List D) (e : Nat × β) : D := .tup (.int e.1 :: f e.2)
def lineF (x : S3 × Nat) : List D := [.str (stS x.1), .blob x.2]
def reqF (x : Bool) : List D := [.bl x]
def leavF (x : Option Nat × Bool) : List D := [optW x.1, .bl x.2]
def cacheD (c : Cache) : D := .tup [.tup (c.lines.map (entT lineF)), .tup (c.req.map (entT reqF)), .tup (c.leav.map (entT leavF))]
def kindS : MK → Str
  | .getS => "get shared"
  | .getM => "get modified"
  | .giveUp _ _ => "give up"
  | .confirm => "confirm"
  | .recall _ => "recall"
  | .returned _ _ => "returned"
  | .inval => "invalidate"
  | .invald => "invalidated"
  | .grant _ _ => "grant"
  | .received => "received"
def argsD : MK → List D
  | .giveUp w d => [.blob w, .bl d]
  | .recall k => [.bl k]
  | .returned w d => [optW w, .bl d]
  | .grant st w => [.str (stS st), .blob w]
  | _ => []
def msgD (m : Msg) : D := .tup (.str (kindS m.k) :: .int m.c :: .int m.l :: argsD m.k)
def servD (s : Serv) : D := .tup [.int s.c, .bl s.ex, .tup (s.wait.map natD), .bl s.rcl, optW s.w, .bl s.gr]
def svD : Option Serv → D
  | none => .non
  | some s => servD s
def homeD (h : Home) : D := .tup [optI h.owner, .tup (h.sh.map natD), svD h.sv]
def msgsD (ms : List Msg) : D := .tup (ms.map msgD)
def sysD (s : Sys) : D := .tup [.tup (s.caches.map cacheD), .tup (s.homes.map homeD), .blob s.mem, msgsD s.net]
theorem map_get {α : Type} {f : α → D} {xs : List α} {j : Nat} {d : D} (h : (xs.map f)[j]? = some d) : ∃ x, xs[j]? = some x ∧ d = f x := by
  rw [List.getElem?_map, Option.map_eq_some_iff] at h
  obtain ⟨x, h1, h2⟩ := h
  exact ⟨x, h1, h2.symm⟩
end WK
set_option maxRecDepth 100000
set_option maxHeartbeats 4000000
namespace WK
open PySem PySem.Spec PyProof.Rows L2
open LK (S3 MK Msg Cfg Cache Serv Home Sys)
section
variable {P : Program} {w : World} {K : PySem.W.Frag} {mg : Str → Option Value} {base : Heap} {C : Addr}
/-! ### entry_of -/
theorem sc_entry_of : FnScope ["entries", "line", "entry"] ["entries", "line"] (defScope (topS 2)) := ⟨rfl, rfl, rfl, by decide +kernel, rfl, by decide +kernel, by decide +kernel⟩
def entO {β : Type} (f : β → List D) (l : Nat) : Option β → D
  | none => .non
  | some b => entT f (l, b)
theorem isNon_entO {β : Type} (f : β → List D) (l : Nat) (o : Option β) : isNon (entO f l o) = o.isNone := by cases o <;> rfl
def sdEntry : Sd := fun ds R => ∃ (β : Type) (es : List (Nat × β)) (f : β → List D) (l : Nat), ds = [.tup (es.map (entT f)), .int l] ∧ R (entO f l (LK.get es l))
theorem get_take {β : Type} {es : List (Nat × β)} {j l : Nat} {x : Nat × β} (h : LK.get (es.take j) l = none) (hx : es[j]? = some x) : LK.get (es.take (j + 1)) l = (if x.1 = l then some x.2 else none) ∧ (x.1 = l → LK.get es l = some x.2) := by
  have e1 : es.take (j + 1) = es.take j ++ [x] := by rw [List.take_add_one, hx]; rfl
  have e2 : LK.get (es.take (j + 1)) l = if x.1 = l then some x.2 else none := by
    rw [e1, show x = (x.1, x.2) from rfl, LK.get_app, h]
    simp only [eq_comm]
  refine ⟨e2, fun hl => ?_⟩
  rw [if_pos hl] at e2
  rw [← List.take_append_drop (j + 1) es]
  unfold LK.get at e2 ⊢
  rw [List.find?_append]
  rw [Option.map_eq_some_iff] at e2
  obtain ⟨y, h1, h2⟩ := e2
  rw [h1]; simp [h2]
theorem ok_entry_of {f : Addr} {fd : FuncData} (T : Dfn K mg "entry_of" (topS 2) ["entries", "line"] f fd) : Has P w K mg base 1 "entry_of" ["entries", "line"] (SpP K C sdEntry) := by
  refine has_of T (fn_pure T.F sc_entry_of (fun ds R ⟨_, _, _, _, e, _⟩ => by rw [e]; rfl) fun cdv A outer s H E ds R hr ⟨β, es, f, l, e, hR⟩ => ?_)
  subst e
  refine dss_cons (ds_forT 2 (fun j env => (∃ o, env = [some (.tup (es.map (entT f))), some (.int l), o]) ∧ LK.get (es.take j) l = none) PassesOwn.never rfl sc_entry_of.nd rfl (.inl rfl)
    (de_var 0 rfl rfl (.inl rfl) ⟨_, rfl, ⟨⟨_, rfl⟩, rfl⟩, fun j env d ⟨⟨o, eo⟩, hJ⟩ hd => ?_, fun env ⟨⟨o, eo⟩, hJ⟩ => ?_⟩))
  · subst eo
    obtain ⟨x, hx, rfl⟩ := map_get hd
    obtain ⟨g1, g2⟩ := get_take hJ hx
    refine dss_cons (ds_if (dt_eq (de_ix (de_var 2 rfl rfl (.inl rfl) (de_int ⟨_, _, rfl, rfl, (de_var 1 rfl rfl (.inl rfl) ⟨_, rfl, ?_⟩)⟩)))))
    by_cases hl : (x.1 : Int) = (l : Int)
    · have hl' : x.1 = l := by omega
      rw [decide_eq_true hl, if_pos rfl]
      refine dss_cons (ds_ret (de_var 2 rfl rfl (.inl rfl) ?_))
      show R (entT f x)
      rw [g2 hl', ← hl'] at hR
      exact hR
    · have hl' : ¬ x.1 = l := by omega
      rw [decide_eq_false hl, if_neg (by decide)]
      refine dss_nil (dss_nil ⟨⟨_, rfl⟩, ?_⟩)
      rw [g1, if_neg hl']
  · subst eo
    rw [List.length_map, List.take_length] at hJ
    rw [hJ] at hR
    exact dss_cons (ds_ret (de_non hR))
end
end WK
set_option maxRecDepth 100000
set_option maxHeartbeats 4000000
namespace WK
open PySem PySem.Spec PyProof.Rows L2
open LK (S3 MK Msg Cfg Cache Serv Home Sys)
section
variable {P : Program} {w : World} {K : PySem.W.Frag} {mg : Str → Option Value} {base : Heap} {C : Addr}
def keyD : D → Int
  | .tup (.int i :: _) => i
  | _ => 0
theorem solid_entT {β : Type} {f : β → List D} (hf : ∀ b, D.solids (f b) = true) (e : Nat × β) : (entT f e).solid = true := by
  show (D.solids (D.int _ :: f e.2)) = true
  show ((D.int _).solid && D.solids (f e.2)) = true
  rw [hf]; rfl
theorem solid_lineF (x : S3 × Nat) : D.solids (lineF x) = true := rfl
theorem solid_reqF (x : Bool) : D.solids (reqF x) = true := rfl
theorem solid_leavF (x : Option Nat × Bool) : D.solids (leavF x) = true := by
  obtain ⟨w, b⟩ := x
  cases w <;> rfl
theorem nat_ne (a b : Nat) : (!decide ((a : Int) = (b : Int))) = (a != b) := by
  by_cases h : a = b
  · subst h; simp
  · have : ¬ (a : Int) = (b : Int) := by omega
    simp [h, this]
theorem nat_eq (a b : Nat) : decide ((a : Int) = (b : Int)) = (a == b) := by
  by_cases h : a = b
  · subst h; simp
  · have : ¬ (a : Int) = (b : Int) := by omega
    simp [h, this]
/-! ### without_line -/
theorem sc_without_line : FnScope ["entries", "line", "entry"] ["entries", "line"] (defScope (topS 3)) := ⟨rfl, rfl, rfl, by decide +kernel, rfl, by decide +kernel, by decide +kernel⟩
def sdWithout : Sd := fun ds R => ∃ (β : Type) (es : List (Nat × β)) (f : β → List D) (l : Nat), ds = [.tup (es.map (entT f)), .int l] ∧ (∀ x, D.solids (f x) = true) ∧ es.length ≤ 1000 ∧ R (.tup ((LK.wo es l).map (entT f)))
theorem ok_without_line {f : Addr} {fd : FuncData} (T : Dfn K mg "without_line" (topS 3) ["entries", "line"] f fd) (no_tuple : mg "tuple" = none) : Has P w K mg base 1 "without_line" ["entries", "line"] (SpP K C sdWithout) := by
  refine has_of T (fn_pure T.F sc_without_line (fun ds R ⟨_, _, _, _, e, _⟩ => by rw [e]; rfl) fun cdv A outer s H E ds R hr ⟨β, es, f, l, e, hs, hz, hR⟩ => ?_)
  subst e
  refine dss_cons (ds_ret (de_tupleOf rfl no_tuple (dl_lc (i := 2) rfl sc_without_line.nd (blkOk_by (N := ["entries", "line", "entry"]) (sc := defScope (topS 3)) (by decide +kernel)) rfl rfl (de_var 0 rfl rfl (.inl rfl) ⟨_, fun d => !decide (keyD d = l), id, rfl, by rw [List.length_map]; omega, fun d hd s H C2 cl fp => ?_, fun d hd _ s H C2 cl fp => ?_, fun d hd _ => ?_, ?_⟩))))
  · obtain ⟨x, hx, rfl⟩ := List.mem_map.mp hd
    exact dts_one (dt_ne (de_ix (de_var 2 rfl rfl (.inl rfl) (de_int ⟨_, _, rfl, rfl, (de_var 1 rfl rfl (.inr (.inl rfl)) ⟨_, rfl, rfl⟩)⟩))))
  · exact (de_var 2 rfl rfl (.inl rfl) rfl)
  · obtain ⟨x, hx, rfl⟩ := List.mem_map.mp hd
    exact solid_entT hs x
  · rw [List.map_id, List.filter_map]
    have e1 : ((fun d => !decide (keyD d = l)) ∘ entT f : Nat × β → Bool) = (fun e => e.1 != l) := by
      funext e; exact nat_ne e.1 l
    rw [e1]; exact hR
/-! ### with_entry -/
theorem sc_with_entry : FnScope ["entries", "new", "entry"] ["entries", "new"] (defScope (topS 4)) := ⟨rfl, rfl, rfl, by decide +kernel, rfl, by decide +kernel, by decide +kernel⟩
def sdWith : Sd := fun ds R => ∃ (β : Type) (es : List (Nat × β)) (f : β → List D) (l : Nat) (x : β), ds = [.tup (es.map (entT f)), entT f (l, x)] ∧ (∀ x, D.solids (f x) = true) ∧ es.length ≤ 1000 ∧ R (.tup ((LK.we es l x).map (entT f)))
theorem ok_with_entry {f : Addr} {fd : FuncData} (T : Dfn K mg "with_entry" (topS 4) ["entries", "new"] f fd) (no_tuple : mg "tuple" = none) : Has P w K mg base 1 "with_entry" ["entries", "new"] (SpP K C sdWith) := by
  refine has_of T (fn_pure T.F sc_with_entry (fun ds R ⟨_, _, _, _, _, e, _⟩ => by rw [e]; rfl) fun cdv A outer s H E ds R hr ⟨β, es, f, l, z, e, hs, hz, hR⟩ => ?_)
  subst e
  refine dss_cons (ds_ret (de_tupleOf rfl no_tuple (dl_lc (i := 2) rfl sc_with_entry.nd (blkOk_by (N := ["entries", "new", "entry"]) (sc := defScope (topS 4)) (by decide +kernel)) rfl rfl (de_var 0 rfl rfl (.inl rfl) ⟨_, fun _ => true, fun d => if keyD d = l then entT f (l, z) else d, rfl, by rw [List.length_map]; omega, fun d hd s H C2 cl fp => dts_nil rfl, fun d hd _ s H C2 cl fp => ?_, fun d hd _ => ?_, ?_⟩))))
  · obtain ⟨x, hx, rfl⟩ := List.mem_map.mp hd
    refine (de_ifExp (dt_eq (de_ix (de_var 2 rfl rfl (.inl rfl) (de_int ⟨_, _, rfl, rfl, (de_ix (de_var 1 rfl rfl (.inr (.inl rfl)) (de_int ⟨_, _, rfl, rfl, ⟨_, rfl, ?_⟩⟩)))⟩)))))
    by_cases hl : (x.1 : Int) = (l : Int)
    · rw [decide_eq_true hl, if_pos rfl]
      exact (de_var 1 rfl rfl (.inr (.inl rfl)) (by show _ = if (x.1 : Int) = (l : Int) then _ else _; rw [if_pos hl]))
    · rw [decide_eq_false hl, if_neg (by decide)]
      exact (de_var 2 rfl rfl (.inl rfl) (by show _ = if (x.1 : Int) = (l : Int) then _ else _; rw [if_neg hl]))
  · obtain ⟨x, hx, rfl⟩ := List.mem_map.mp hd
    show (if (x.1 : Int) = (l : Int) then _ else _ : D).solid = true
    split
    · exact solid_entT hs _
    · exact solid_entT hs _
  · rw [List.filter_eq_self.mpr (fun _ _ => rfl), List.map_map]
    have e1 : ((fun d => if keyD d = l then entT f (l, z) else d) ∘ entT f : Nat × β → D) = (entT f ∘ fun e => if e.1 == l then (l, z) else e) := by
      funext e
      show (if (e.1 : Int) = (l : Int) then _ else _ : D) = entT f (if e.1 == l then (l, z) else e)
      by_cases h : e.1 = l
      · rw [if_pos (by omega), if_pos (by simpa using h)]
      · rw [if_neg (by omega), if_neg (by simpa using h)]
    rw [e1, ← List.map_map]; exact hR
/-! ### occupied_ways -/
theorem sc_occupied_ways : FnScope ["config", "cache", "line", "group", "present", "coming", "entry"] ["config", "cache", "line"] (defScope (topS 5)) := ⟨rfl, rfl, rfl, by decide +kernel, rfl, by decide +kernel, by decide +kernel⟩
structure CfgOk (g : Cfg) : Prop where
  lw : 1 ≤ g.lw
  sets : 1 ≤ g.sets
  ways : 1 ≤ g.ways
  reqs : 1 ≤ g.reqs
structure Small (c : Cache) : Prop where
  l : c.lines.length ≤ 1000
  r : c.req.length ≤ 1000
  v : c.leav.length ≤ 1000
structure TCfg (K : PySem.W.Frag) (C : Addr) (mg : Str → Option Value) : Prop where
  cls : Cls K C
  na_line_words : NoAttr K C "line_words"
  na_sets : NoAttr K C "sets"
  na_ways : NoAttr K C "ways"
  na_requests : NoAttr K C "requests"
  na_exclusive_state : NoAttr K C "exclusive_state"
  no_len : mg "len" = none
  no_int : mg "int" = none
  no_abs : mg "abs" = none
  no_max : mg "max" = none
  no_tuple : mg "tuple" = none
  no_range : mg "range" = none
  no_list : mg "list" = none
  no_enumerate : mg "enumerate" = none
theorem mod_eq (g : Cfg) (a b : Nat) : decide ((a : Int) % (g.sets : Int) = (b : Int) % (g.sets : Int)) = (a % g.sets == b % g.sets) := by
  rw [← Int.natCast_emod, ← Int.natCast_emod]; exact nat_eq _ _
theorem cont_nat {β : Type} (es : List (Nat × β)) (k : Nat) : (es.map (fun e => (e.1 : Int))).contains (k : Int) = (es.map (·.1)).contains k := by
  induction es with
  | nil => rfl
  | cons e es ih =>
    rw [List.map_cons, List.map_cons, List.contains_cons, List.contains_cons, ih]
    congr 1
    rw [← nat_eq]
    by_cases h : (k : Int) = (e.1 : Int) <;> simp [h]
def sdOcc : Sd := fun ds R => ∃ (g : Cfg) (c : Cache) (l : Nat), ds = [.cfg g, cacheD c, .int l] ∧ CfgOk g ∧ Small c ∧ R (.int (LK.occ g c l))
theorem ok_occupied_ways {f : Addr} {fd : FuncData} (D1 : Dfn K mg "occupied_ways" (topS 5) ["config", "cache", "line"] f fd) (T : TCfg K C mg) : Has P w K mg base 1 "occupied_ways" ["config", "cache", "line"] (SpP K C sdOcc) := by
  refine has_of D1 (fn_pure D1.F sc_occupied_ways (fun ds R ⟨_, _, _, e, _⟩ => by rw [e]; rfl) fun cdv A outer s H E ds R hr ⟨g, c, l, e, hg, hz, hR⟩ => ?_)
  subst e
  have hsets : (0 : Int) < g.sets := by have := hg.sets; omega
  refine dss_cons (ds_set 3 sc_occupied_ways.nd rfl (.inr rfl) (de_mod (de_var 2 rfl rfl (.inl rfl) (de_fld T.cls T.na_sets sel_sets (de_var 0 rfl rfl (.inr (.inl rfl)) ⟨_, rfl, ⟨_, _, rfl, rfl, hsets, ?_⟩⟩)))))
  refine dss_cons (ds_set 4 sc_occupied_ways.nd rfl (.inr rfl) (de_ilst (dl_lc (i := 6) rfl sc_occupied_ways.nd (blkOk_by (N := ["config", "cache", "line", "group", "present", "coming", "entry"]) (sc := defScope (topS 5)) (by decide +kernel)) rfl rfl (de_ix (de_var 1 rfl rfl (.inl rfl) (de_int ⟨_, _, rfl, rfl, ⟨_, fun x => decide (keyD x % (g.sets : Int) = (l : Int) % (g.sets : Int)), fun x => .int (keyD x), rfl, by have := hz.l; rw [List.length_map]; omega, fun x hx s H C2 cl fp => ?_, fun x hx _ s H C2 cl fp => ?_, fun _ _ _ => rfl, ⟨(c.lines.filter (fun e => LK.inSet g l e.1)).map (fun e => (e.1 : Int)), ?_, ?_⟩⟩⟩))))))
  · obtain ⟨y, hy, rfl⟩ := List.mem_map.mp hx
    exact dts_one (dt_eq (de_mod (de_ix (de_var 6 rfl rfl (.inl rfl) (de_int ⟨_, _, rfl, rfl, (de_fld T.cls T.na_sets sel_sets (de_var 0 rfl rfl (.inr (.inl rfl)) ⟨_, rfl, ⟨_, _, rfl, rfl, hsets, (de_var 3 rfl rfl (.inr (.inl rfl)) ⟨_, rfl, rfl⟩)⟩⟩))⟩)))))
  · obtain ⟨y, hy, rfl⟩ := List.mem_map.mp hx
    exact (de_ix (de_var 6 rfl rfl (.inl rfl) (de_int ⟨_, _, rfl, rfl, rfl⟩)))
  · rw [List.filter_map, List.map_map, List.map_map]
    have e1 : ((fun x => decide (keyD x % (g.sets : Int) = (l : Int) % (g.sets : Int))) ∘ entT lineF : Nat × (S3 × Nat) → Bool) = fun e => LK.inSet g l e.1 := by
      funext e; exact mod_eq g e.1 l
    rw [e1]; rfl
  · refine dss_cons (ds_setLcI (i := 6) 5 rfl sc_occupied_ways.nd rfl rfl (sw_true rfl rfl rfl (by decide +kernel)) (blkOk_by (N := ["config", "cache", "line", "group", "present", "coming", "entry"]) (sc := defScope (topS 5)) (by decide +kernel)) rfl rfl (de_ix (de_var 1 rfl rfl (.inl rfl) (de_int ⟨_, _, rfl, rfl, ⟨_, fun x => decide (keyD x % (g.sets : Int) = (l : Int) % (g.sets : Int)) && !((c.lines.filter (fun e => LK.inSet g l e.1)).map (fun e => (e.1 : Int))).contains (keyD x), fun x => .int (keyD x), rfl, by have := hz.r; rw [List.length_map]; omega, fun x hx s H C2 cl fp => ?_, fun x hx _ s H C2 cl fp => ?_, fun _ _ _ => rfl, ⟨(c.req.filter (fun e => LK.inSet g l e.1 && !((c.lines.filter (fun e => LK.inSet g l e.1)).map (·.1)).contains e.1)).map (fun e => (e.1 : Int)), ?_, ?_⟩⟩⟩))))
    · obtain ⟨y, hy, rfl⟩ := List.mem_map.mp hx
      refine dts_one (dt_w (dw_and (dt_eq (de_mod (de_ix (de_var 6 rfl rfl (.inl rfl) (de_int ⟨_, _, rfl, rfl, (de_fld T.cls T.na_sets sel_sets (de_var 0 rfl rfl (.inr (.inl rfl)) ⟨_, rfl, ⟨_, _, rfl, rfl, hsets, (de_var 3 rfl rfl (.inr (.inl rfl)) ⟨_, rfl, ?_⟩)⟩⟩))⟩)))))))
      by_cases hm : (y.1 : Int) % (g.sets : Int) = (l : Int) % (g.sets : Int)
      · rw [decide_eq_true hm, if_pos rfl]
        refine dw_one (dt_notIn (de_ix (de_var 6 rfl rfl (.inl rfl) (de_int ⟨_, _, rfl, rfl, (de_var 4 rfl rfl (.inr (.inl rfl)) ⟨_, rfl, ?_⟩)⟩)))) (.inl rfl)
        show _ = (decide ((y.1 : Int) % (g.sets : Int) = (l : Int) % (g.sets : Int)) && _)
        rw [decide_eq_true hm]; rfl
      · rw [decide_eq_false hm, if_neg (by decide)]
        show _ = (decide ((y.1 : Int) % (g.sets : Int) = (l : Int) % (g.sets : Int)) && _)
        rw [decide_eq_false hm]; rfl
    · obtain ⟨y, hy, rfl⟩ := List.mem_map.mp hx
      exact (de_ix (de_var 6 rfl rfl (.inl rfl) (de_int ⟨_, _, rfl, rfl, rfl⟩)))
    · rw [List.filter_map, List.map_map, List.map_map]
      have e1 : ((fun x => decide (keyD x % (g.sets : Int) = (l : Int) % (g.sets : Int)) && !((c.lines.filter (fun e => LK.inSet g l e.1)).map (fun e => (e.1 : Int))).contains (keyD x)) ∘ entT reqF : Nat × Bool → Bool) = fun e => LK.inSet g l e.1 && !((c.lines.filter (fun e => LK.inSet g l e.1)).map (·.1)).contains e.1 := by
        funext e
        show (decide ((e.1 : Int) % (g.sets : Int) = (l : Int) % (g.sets : Int)) && !((c.lines.filter (fun e => LK.inSet g l e.1)).map (fun e => (e.1 : Int))).contains (e.1 : Int)) = _
        rw [mod_eq, cont_nat]; rfl
      rw [e1]; rfl
    · refine dss_cons (ds_ret (de_add (de_len rfl T.no_len (de_var 4 rfl rfl (.inr (.inl rfl)) ⟨_, rfl, (de_len rfl T.no_len (de_var 5 rfl rfl (.inl rfl) ⟨_, rfl, ⟨_, _, rfl, rfl, ?_⟩⟩))⟩))))
      have e1 : (((c.lines.filter (fun e => LK.inSet g l e.1)).map (fun e => (e.1 : Int))).length : Int) + (((c.req.filter (fun e => LK.inSet g l e.1 && !((c.lines.filter (fun e => LK.inSet g l e.1)).map (·.1)).contains e.1)).map (fun e => (e.1 : Int))).length : Int) = (LK.occ g c l : Nat) := by
        unfold LK.occ
        simp only [List.length_map]
        rw [← Int.natCast_add]
      rw [← e1] at hR
      exact hR
end
end WK
set_option maxRecDepth 100000
set_option maxHeartbeats 4000000
namespace WK
open PySem PySem.Spec PyProof.Rows L2
open LK (S3 MK Msg Cfg Cache Serv Home Sys)
section
variable {P : Program} {w : World} {K : PySem.W.Frag} {mg : Str → Option Value} {base : Heap} {C : Addr}
theorem catD_tup {a b : List D} (h : a.length + b.length ≤ 100000) : catD (.tup a) (.tup b) = some (.tup (a ++ b)) := if_pos h
theorem catD_blob {a b : Nat} (h : a + b ≤ 100000) : catD (.blob a) (.blob b) = some (.blob (a + b)) := if_pos h
theorem opt_some {β : Type} {o : Option β} (h : o.isNone = false) : ∃ x, o = some x := by cases o with
  | none => cases h
  | some x => exact ⟨x, rfl⟩
theorem opt_none {β : Type} {o : Option β} (h : o.isNone = true) : o = none := by cases o with
  | none => rfl
  | some x => cases h
theorem st_shared (st : S3) : decide (stS st = ("shared" : Str)) = (st == S3.S) := by cases st <;> decide
theorem st_modified (st : S3) : decide (stS st = ("modified" : Str)) = (st == S3.M) := by cases st <;> decide
/-! ### request_line -/
theorem sc_request_line : FnScope ["config", "cache", "core", "line", "exclusive", "lines", "requested", "leaving", "entry", "kind"] ["config", "cache", "core", "line", "exclusive"] (defScope (topS 6)) := ⟨rfl, rfl, rfl, by decide +kernel, rfl, by decide +kernel, by decide +kernel⟩
def resD : Option (Cache × List Msg) → D
  | none => .non
  | some r => .tup [cacheD r.1, msgsD r.2]
def sdReq : Sd := fun ds R => ∃ (g : Cfg) (c : Cache) (k l : Nat) (e : Bool), ds = [.cfg g, cacheD c, .int k, .int l, .bl e] ∧ CfgOk g ∧ Small c ∧ R (resD (LK.requestLine g c k l e))
theorem ok_request_line {f : Addr} {fd : FuncData} (D1 : Dfn K mg "request_line" (topS 6) ["config", "cache", "core", "line", "exclusive"] f fd) (T : TCfg K C mg) (h_entry_of : Has P w K mg base 1 "entry_of" ["entries", "line"] (SpP K C sdEntry)) (h_occupied_ways : Has P w K mg base 1 "occupied_ways" ["config", "cache", "line"] (SpP K C sdOcc)) : Has P w K mg base 2 "request_line" ["config", "cache", "core", "line", "exclusive"] (SpP K C sdReq) := by
  refine has_of D1 (fn_pure D1.F sc_request_line (fun ds R ⟨_, _, _, _, _, e, _⟩ => by rw [e]; rfl) fun cdv A outer s H E ds R hr ⟨g, c, k, l, e, eq, hg, hz, hR⟩ => ?_)
  subst eq
  unfold LK.requestLine at hR
  have z1 := hz.l
  have z2 := hz.r
  have z3 := hz.v
  refine dss_cons (ds_unpack [5, 6, 7] rfl (pgs_cons (pg_name (i := 5) sc_request_line.nd rfl (.inl rfl)) (pgs_cons (pg_name (i := 6) sc_request_line.nd rfl (.inl rfl)) (pgs_cons (pg_name (i := 7) sc_request_line.nd rfl (.inl rfl)) pgs_nil))) rfl (de_var 1 rfl rfl (.inl rfl) ⟨_, rfl, rfl, ?_⟩))
  have last : ∀ {en : D}, R (.tup [.tup [.tup (c.lines.map (entT lineF)), .tup ((c.req ++ [(l, e)]).map (entT reqF)), .tup (c.leav.map (entT leavF))], msgsD [⟨k, l, if e then .getM else .getS⟩]]) → DSs (cxOf CX0 P w K mg base ["config", "cache", "core", "line", "exclusive", "lines", "requested", "leaving", "entry", "kind"] "request_line" (defScope (topS 6)) f cdv A outer s H E).nox C none ((defBody (topS 6)).drop 6)
      [some (.cfg g), some (cacheD c), some (.int k), some (.int l), some (.bl e), some (.tup (c.lines.map (entT lineF))), some (.tup (c.req.map (entT reqF))), some (.tup (c.leav.map (entT leavF))), some en, none] ⟨fun _ => R .non, R, fun _ => False, fun _ => False⟩ := fun {en} hR => by
    refine dss_cons (ds_set 9 sc_request_line.nd rfl (.inl rfl) (de_ifExp (dt_truth (de_var 4 rfl rfl (.inl rfl) ⟨_, rfl, ?_⟩))))
    cases e with
    | true =>
      refine (de_str ?_)
      refine dss_cons (ds_ret (de_tup (da_cons (de_tup (da_cons (de_var 5 rfl rfl (.inl rfl) (da_cons (de_cat (de_var 6 rfl rfl (.inl rfl) (de_tup (da_cons (de_tup (da_cons (de_var 3 rfl rfl (.inl rfl) (da_cons (de_var 4 rfl rfl (.inl rfl) (da_nil ⟨Nat.le_of_ble_eq_true rfl, (da_nil ⟨Nat.le_of_ble_eq_true rfl, ⟨_, catD_tup (by simp only [List.length_map, List.length_cons, List.length_nil]; omega), (da_cons (de_var 7 rfl rfl (.inl rfl) (da_nil ⟨Nat.le_of_ble_eq_true rfl, (da_cons (de_tup (da_cons (de_tup (da_cons (de_var 9 rfl rfl (.inl rfl) (da_cons (de_var 2 rfl rfl (.inl rfl) (da_cons (de_var 3 rfl rfl (.inl rfl) (da_nil ⟨Nat.le_of_ble_eq_true rfl, (da_nil ⟨Nat.le_of_ble_eq_true rfl, (da_nil ⟨Nat.le_of_ble_eq_true rfl, ?_⟩)⟩)⟩)))))))))))⟩)))⟩⟩)⟩)))))))))))))))))
      simp only [List.map_append] at hR
      exact hR
    | false =>
      refine (de_str ?_)
      refine dss_cons (ds_ret (de_tup (da_cons (de_tup (da_cons (de_var 5 rfl rfl (.inl rfl) (da_cons (de_cat (de_var 6 rfl rfl (.inl rfl) (de_tup (da_cons (de_tup (da_cons (de_var 3 rfl rfl (.inl rfl) (da_cons (de_var 4 rfl rfl (.inl rfl) (da_nil ⟨Nat.le_of_ble_eq_true rfl, (da_nil ⟨Nat.le_of_ble_eq_true rfl, ⟨_, catD_tup (by simp only [List.length_map, List.length_cons, List.length_nil]; omega), (da_cons (de_var 7 rfl rfl (.inl rfl) (da_nil ⟨Nat.le_of_ble_eq_true rfl, (da_cons (de_tup (da_cons (de_tup (da_cons (de_var 9 rfl rfl (.inl rfl) (da_cons (de_var 2 rfl rfl (.inl rfl) (da_cons (de_var 3 rfl rfl (.inl rfl) (da_nil ⟨Nat.le_of_ble_eq_true rfl, (da_nil ⟨Nat.le_of_ble_eq_true rfl, (da_nil ⟨Nat.le_of_ble_eq_true rfl, ?_⟩)⟩)⟩)))))))))))⟩)))⟩⟩)⟩)))))))))))))))))
      simp only [List.map_append] at hR
      exact hR
  refine dss_cons (ds_if (dt_w (dw_or (dt_notN (de_callH h_entry_of (hr.mono (by decide)) rfl (da_cons (de_var 6 rfl rfl (.inl rfl) (da_cons (de_var 3 rfl rfl (.inl rfl) (da_nil ⟨_, _, _, _, rfl, ?_⟩))))))))))
  show (if (!isNon (entO _ _ _)) = true then _ else _)
  rw [isNon_entO]
  cases h1 : LK.get c.req l with
  | some x =>
    rw [h1] at hR
    exact dss_cons (ds_ret (de_non hR))
  | none =>
  refine dw_one (dt_notN (de_callH h_entry_of (hr.mono (by decide)) rfl (da_cons (de_var 7 rfl rfl (.inl rfl) (da_cons (de_var 3 rfl rfl (.inl rfl) (da_nil ⟨_, _, _, _, rfl, ?_⟩))))))) (.inr rfl)
  show (if (!isNon (entO _ _ _)) = true then _ else _)
  rw [isNon_entO]
  cases h2 : LK.get c.leav l with
  | some x =>
    rw [h1, h2] at hR
    exact dss_cons (ds_ret (de_non hR))
  | none =>
  rw [h1, h2] at hR
  simp only [Option.isSome_none, Bool.or_self, Bool.false_eq_true, if_false] at hR
  refine dss_nil ?_
  refine dss_cons (ds_if (dt_ge (de_len rfl T.no_len (de_var 6 rfl rfl (.inl rfl) ⟨_, rfl, (de_fld T.cls T.na_requests sel_reqs (de_var 0 rfl rfl (.inl rfl) ⟨_, rfl, ⟨_, _, rfl, rfl, ?_⟩⟩))⟩))))
  show (if decide _ = true then _ else _)
  rw [List.length_map]
  by_cases h3 : g.reqs ≤ c.req.length
  · rw [if_pos h3] at hR
    rw [decide_eq_true (by omega), if_pos rfl]
    exact dss_cons (ds_ret (de_non hR))
  rw [if_neg h3] at hR
  rw [decide_eq_false (by omega), if_neg (by decide)]
  refine dss_nil ?_
  refine dss_cons (ds_set 8 sc_request_line.nd rfl (.inl rfl) (de_callH h_entry_of (hr.mono (by decide)) rfl (da_cons (de_var 5 rfl rfl (.inl rfl) (da_cons (de_var 3 rfl rfl (.inl rfl) (da_nil ⟨_, _, _, _, rfl, ?_⟩)))))))
  refine dss_cons (ds_if (dt_w (dw_and (dt_isN (de_var 8 rfl rfl (.inl rfl) ?_)))))
  show (if isNon (entO _ _ _) = true then _ else _)
  rw [isNon_entO]
  cases h4 : LK.get c.lines l with
  | none =>
    rw [h4] at hR
    simp only [Option.isNone_none, Bool.true_and, Bool.false_eq_true, if_false, decide_eq_true_eq] at hR
    refine dw_one (dt_ge (de_callH h_occupied_ways (hr.mono (by decide)) rfl (da_cons (de_var 0 rfl rfl (.inl rfl) (da_cons (de_var 1 rfl rfl (.inl rfl) (da_cons (de_var 3 rfl rfl (.inl rfl) (da_nil ⟨_, _, _, rfl, hg, hz, (de_fld T.cls T.na_ways sel_ways (de_var 0 rfl rfl (.inl rfl) ⟨_, rfl, ⟨_, _, rfl, rfl, ?_⟩⟩))⟩))))))))) (.inl rfl)
    by_cases h5 : g.ways ≤ LK.occ g c l
    · rw [if_pos h5] at hR
      rw [decide_eq_true (by omega), if_pos rfl]
      exact dss_cons (ds_ret (de_non hR))
    rw [if_neg h5] at hR
    rw [decide_eq_false (by omega), if_neg (by decide)]
    refine dss_nil ?_
    refine dss_cons (ds_if (dt_w (dw_and (dt_notN (de_var 8 rfl rfl (.inl rfl) ?_)))))
    refine dss_nil ?_
    exact last hR
  | some x =>
    obtain ⟨st, w⟩ := x
    rw [h4] at hR
    refine dss_nil ?_
    refine dss_cons (ds_if (dt_w (dw_and (dt_notN (de_var 8 rfl rfl (.inl rfl) ?_)))))
    refine dw_one (dt_not (dt_w (dw_and (dt_truth (de_var 4 rfl rfl (.inl rfl) ⟨_, rfl, ?_⟩))))) (.inl rfl)
    cases e with
    | false => exact dss_cons (ds_ret (de_non hR))
    | true =>
      refine dw_one (dt_eq (de_ix (de_var 8 rfl rfl (.inl rfl) (de_int ⟨_, _, rfl, rfl, (de_str ⟨_, rfl, ?_⟩)⟩)))) (.inl rfl)
      show (if (!(decide _)) = true then _ else _)
      rw [st_shared]
      cases st with
      | S =>
        refine dss_nil ?_
        exact last hR
      | E => exact dss_cons (ds_ret (de_non hR))
      | M => exact dss_cons (ds_ret (de_non hR))
end
end WK
set_option maxRecDepth 100000
set_option maxHeartbeats 4000000
namespace WK
open PySem PySem.Spec PyProof.Rows L2
open LK (S3 MK Msg Cfg Cache Serv Home Sys)
section
variable {P : Program} {w : World} {K : PySem.W.Frag} {mg : Str → Option Value} {base : Heap} {C : Addr}
/-! ### give_up_line -/
theorem v7_cache : VarOk (defScope (topS 7)) "cache" := ⟨.inl rfl, by decide, by decide⟩
theorem v7_core : VarOk (defScope (topS 7)) "core" := ⟨.inl rfl, by decide, by decide⟩
theorem v7_line : VarOk (defScope (topS 7)) "line" := ⟨.inl rfl, by decide, by decide⟩
theorem v7_lines : VarOk (defScope (topS 7)) "lines" := ⟨.inl rfl, by decide, by decide⟩
theorem v7_requested : VarOk (defScope (topS 7)) "requested" := ⟨.inl rfl, by decide, by decide⟩
theorem v7_leaving : VarOk (defScope (topS 7)) "leaving" := ⟨.inl rfl, by decide, by decide⟩
theorem v7_entry : VarOk (defScope (topS 7)) "entry" := ⟨.inl rfl, by decide, by decide⟩
theorem v7_kept : VarOk (defScope (topS 7)) "kept" := ⟨.inl rfl, by decide, by decide⟩
theorem v7_dirty : VarOk (defScope (topS 7)) "dirty" := ⟨.inl rfl, by decide, by decide⟩
theorem v7_left : VarOk (defScope (topS 7)) "left" := ⟨.inl rfl, by decide, by decide⟩
theorem sc_give_up_line : FnScope ["cache", "core", "line", "lines", "requested", "leaving", "entry", "kept", "dirty", "left"] ["cache", "core", "line"] (defScope (topS 7)) := ⟨rfl, rfl, rfl, by decide +kernel, rfl, by decide +kernel, by decide +kernel⟩
def sdGive : Sd := fun ds R => ∃ (c : Cache) (k l : Nat), ds = [cacheD c, .int k, .int l] ∧ Small c ∧ R (resD (LK.giveUp c k l))
theorem ok_give_up_line {f : Addr} {fd : FuncData} (D1 : Dfn K mg "give_up_line" (topS 7) ["cache", "core", "line"] f fd) (h_entry_of : Has P w K mg base 1 "entry_of" ["entries", "line"] (SpP K C sdEntry)) (h_without_line : Has P w K mg base 1 "without_line" ["entries", "line"] (SpP K C sdWithout)) : Has P w K mg base 2 "give_up_line" ["cache", "core", "line"] (SpP K C sdGive) := by
  refine has_of D1 (fn_pure D1.F sc_give_up_line (fun ds R ⟨_, _, _, e, _⟩ => by rw [e]; rfl) fun cdv A outer s H E ds R hr ⟨c, k, l, eq, hz, hR⟩ => ?_)
  subst eq
  have z1 := hz.l
  have z2 := hz.r
  have z3 := hz.v
  unfold LK.giveUp at hR
  refine dss_env (env' := [_, _, _, _, _, _, _, _, _, _]) rfl ?_
  refine dss_cons (ds_unpack [3, 4, 5] rfl (pgs_cons (pg_name (i := 3) sc_give_up_line.nd rfl (.inl rfl)) (pgs_cons (pg_name (i := 4) sc_give_up_line.nd rfl (.inl rfl)) (pgs_cons (pg_name (i := 5) sc_give_up_line.nd rfl (.inl rfl)) pgs_nil))) rfl (de_v 0 rfl rfl v7_cache ⟨_, rfl, rfl, (dss_env (env' := [_, _, _, _, _, _, _, _, _, _]) rfl ?_)⟩))
  refine dss_cons (ds_set 6 sc_give_up_line.nd rfl (.inl rfl) (de_callH h_entry_of (hr.mono (by decide)) rfl (da_cons (de_v 3 rfl rfl v7_lines (da_cons (de_v 2 rfl rfl v7_line (da_nil ⟨_, _, _, _, rfl, (dss_env (env' := [_, _, _, _, _, _, _, _, _, _]) rfl ?_)⟩)))))))
  refine dss_cons (ds_if (dt_w (dw_or (dt_isN (de_v 6 rfl rfl v7_entry ?_)))))
  show (if isNon (entO _ _ _) = true then _ else _)
  rw [isNon_entO]
  cases h1 : LK.get c.lines l with
  | none =>
    rw [h1] at hR
    exact dss_cons (ds_ret (de_non hR))
  | some x =>
  obtain ⟨st, w0⟩ := x
  rw [h1] at hR
  simp only at hR
  refine dw_one (dt_notN (de_callH h_entry_of (hr.mono (by decide)) rfl (da_cons (de_v 4 rfl rfl v7_requested (da_cons (de_v 2 rfl rfl v7_line (da_nil ⟨_, _, _, _, rfl, ?_⟩))))))) (.inr rfl)
  show (if (!isNon (entO _ _ _)) = true then _ else _)
  rw [isNon_entO]
  cases h2 : LK.get c.req l with
  | some y =>
    rw [h2] at hR
    exact dss_cons (ds_ret (de_non hR))
  | none =>
  rw [h2] at hR
  simp only [Option.isSome_none, Bool.false_eq_true, if_false] at hR
  refine dss_nil ?_
  refine dss_cons (ds_set 7 sc_give_up_line.nd rfl (.inl rfl) (de_callH h_without_line (hr.mono (by decide)) rfl (da_cons (de_v 3 rfl rfl v7_lines (da_cons (de_v 2 rfl rfl v7_line (da_nil ⟨_, _, _, _, rfl, solid_lineF, z1, (dss_env (env' := [_, _, _, _, _, _, _, _, _, _]) rfl ?_)⟩)))))))
  refine dss_cons (ds_if (dt_eq (de_ix (de_v 6 rfl rfl v7_entry (de_int ⟨_, _, rfl, rfl, (de_str ⟨_, rfl, ?_⟩)⟩)))))
  show (if decide _ = true then _ else _)
  rw [st_shared]
  cases st with
  | S =>
    exact dss_cons (ds_ret (de_tup (da_cons (de_tup (da_cons (de_v 7 rfl rfl v7_kept (da_cons (de_v 4 rfl rfl v7_requested (da_cons (de_v 5 rfl rfl v7_leaving (da_nil ⟨Nat.le_of_ble_eq_true rfl, (da_cons (de_tup (da_nil ⟨Nat.le_of_ble_eq_true rfl, (da_nil ⟨Nat.le_of_ble_eq_true rfl, hR⟩)⟩)))⟩)))))))))))
  | E =>
    refine dss_nil ?_
    refine dss_cons (ds_set 8 sc_give_up_line.nd rfl (.inl rfl) (de_eq (de_ix (de_v 6 rfl rfl v7_entry (de_int ⟨_, _, rfl, rfl, (de_str ⟨_, rfl, (dss_env (env' := [_, _, _, _, _, _, _, _, _, _]) rfl ?_)⟩)⟩)))))
    refine dss_cons (ds_set 9 sc_give_up_line.nd rfl (.inl rfl) (de_cat (de_v 5 rfl rfl v7_leaving (de_tup (da_cons (de_tup (da_cons (de_v 2 rfl rfl v7_line (da_cons (de_ix (de_v 6 rfl rfl v7_entry (de_int ⟨_, _, rfl, rfl, (da_cons (de_v 8 rfl rfl v7_dirty (da_nil ⟨Nat.le_of_ble_eq_true rfl, (da_nil ⟨Nat.le_of_ble_eq_true rfl, ⟨_, catD_tup (by simp only [List.length_map, List.length_cons, List.length_nil]; omega), (dss_env (env' := [_, _, _, _, _, _, _, _, _, _]) rfl ?_)⟩⟩)⟩)))⟩))))))))))))
    refine dss_cons (ds_ret (de_tup (da_cons (de_tup (da_cons (de_v 7 rfl rfl v7_kept (da_cons (de_v 4 rfl rfl v7_requested (da_cons (de_v 9 rfl rfl v7_left (da_nil ⟨Nat.le_of_ble_eq_true rfl, (da_cons (de_tup (da_cons (de_tup (da_cons (de_str (da_cons (de_v 1 rfl rfl v7_core (da_cons (de_v 2 rfl rfl v7_line (da_cons (de_ix (de_v 6 rfl rfl v7_entry (de_int ⟨_, _, rfl, rfl, (da_cons (de_v 8 rfl rfl v7_dirty (da_nil ⟨Nat.le_of_ble_eq_true rfl, (da_nil ⟨Nat.le_of_ble_eq_true rfl, (da_nil ⟨Nat.le_of_ble_eq_true rfl, ?_⟩)⟩)⟩)))⟩))))))))))))))⟩)))))))))))
    rw [if_neg (by decide)] at hR
    rw [show decide (stS S3.E = ("modified" : Str)) = false by decide]
    simp only [List.map_append, resD, cacheD] at hR
    exact hR
  | M =>
    refine dss_nil ?_
    refine dss_cons (ds_set 8 sc_give_up_line.nd rfl (.inl rfl) (de_eq (de_ix (de_v 6 rfl rfl v7_entry (de_int ⟨_, _, rfl, rfl, (de_str ⟨_, rfl, (dss_env (env' := [_, _, _, _, _, _, _, _, _, _]) rfl ?_)⟩)⟩)))))
    refine dss_cons (ds_set 9 sc_give_up_line.nd rfl (.inl rfl) (de_cat (de_v 5 rfl rfl v7_leaving (de_tup (da_cons (de_tup (da_cons (de_v 2 rfl rfl v7_line (da_cons (de_ix (de_v 6 rfl rfl v7_entry (de_int ⟨_, _, rfl, rfl, (da_cons (de_v 8 rfl rfl v7_dirty (da_nil ⟨Nat.le_of_ble_eq_true rfl, (da_nil ⟨Nat.le_of_ble_eq_true rfl, ⟨_, catD_tup (by simp only [List.length_map, List.length_cons, List.length_nil]; omega), (dss_env (env' := [_, _, _, _, _, _, _, _, _, _]) rfl ?_)⟩⟩)⟩)))⟩))))))))))))
    refine dss_cons (ds_ret (de_tup (da_cons (de_tup (da_cons (de_v 7 rfl rfl v7_kept (da_cons (de_v 4 rfl rfl v7_requested (da_cons (de_v 9 rfl rfl v7_left (da_nil ⟨Nat.le_of_ble_eq_true rfl, (da_cons (de_tup (da_cons (de_tup (da_cons (de_str (da_cons (de_v 1 rfl rfl v7_core (da_cons (de_v 2 rfl rfl v7_line (da_cons (de_ix (de_v 6 rfl rfl v7_entry (de_int ⟨_, _, rfl, rfl, (da_cons (de_v 8 rfl rfl v7_dirty (da_nil ⟨Nat.le_of_ble_eq_true rfl, (da_nil ⟨Nat.le_of_ble_eq_true rfl, (da_nil ⟨Nat.le_of_ble_eq_true rfl, ?_⟩)⟩)⟩)))⟩))))))))))))))⟩)))))))))))
    rw [if_neg (by decide)] at hR
    rw [show decide (stS S3.M = ("modified" : Str)) = true by decide]
    simp only [List.map_append, resD, cacheD] at hR
    exact hR
/-! ### after_recall -/
theorem v8_cache : VarOk (defScope (topS 8)) "cache" := ⟨.inl rfl, by decide, by decide⟩
theorem v8_message : VarOk (defScope (topS 8)) "message" := ⟨.inl rfl, by decide, by decide⟩
theorem v8_lines : VarOk (defScope (topS 8)) "lines" := ⟨.inl rfl, by decide, by decide⟩
theorem v8_requested : VarOk (defScope (topS 8)) "requested" := ⟨.inl rfl, by decide, by decide⟩
theorem v8_leaving : VarOk (defScope (topS 8)) "leaving" := ⟨.inl rfl, by decide, by decide⟩
theorem v8_core : VarOk (defScope (topS 8)) "core" := ⟨.inl rfl, by decide, by decide⟩
theorem v8_line : VarOk (defScope (topS 8)) "line" := ⟨.inl rfl, by decide, by decide⟩
theorem v8_keep : VarOk (defScope (topS 8)) "keep" := ⟨.inl rfl, by decide, by decide⟩
theorem v8_entry : VarOk (defScope (topS 8)) "entry" := ⟨.inl rfl, by decide, by decide⟩
theorem v8_left : VarOk (defScope (topS 8)) "left" := ⟨.inl rfl, by decide, by decide⟩
theorem v8_rest : VarOk (defScope (topS 8)) "rest" := ⟨.inl rfl, by decide, by decide⟩
theorem v8_kept : VarOk (defScope (topS 8)) "kept" := ⟨.inl rfl, by decide, by decide⟩
theorem sc_after_recall : FnScope ["cache", "message", "lines", "requested", "leaving", "core", "line", "keep", "entry", "left", "rest", "kept"] ["cache", "message"] (defScope (topS 8)) := ⟨rfl, rfl, rfl, by decide +kernel, rfl, by decide +kernel, by decide +kernel⟩
def sdRecall : Sd := fun ds R => ∃ (c : Cache) (k l : Nat) (keep : Bool) (r : Cache × List Msg), ds = [cacheD c, msgD ⟨k, l, .recall keep⟩] ∧ Small c ∧ LK.afterRecall c k l keep = some r ∧ R (.tup [cacheD r.1, msgsD r.2])
theorem ok_after_recall {f : Addr} {fd : FuncData} (D1 : Dfn K mg "after_recall" (topS 8) ["cache", "message"] f fd) (h_entry_of : Has P w K mg base 1 "entry_of" ["entries", "line"] (SpP K C sdEntry)) (h_without_line : Has P w K mg base 1 "without_line" ["entries", "line"] (SpP K C sdWithout)) (h_with_entry : Has P w K mg base 1 "with_entry" ["entries", "new"] (SpP K C sdWith)) : Has P w K mg base 2 "after_recall" ["cache", "message"] (SpP K C sdRecall) := by
  refine has_of D1 (fn_pure D1.F sc_after_recall (fun ds R ⟨_, _, _, _, _, e, _⟩ => by rw [e]; rfl) fun cdv A outer s H E ds R hr ⟨c, k, l, keep, rr, eq, hz, ha, hR⟩ => ?_)
  subst eq
  have z1 := hz.l
  have z2 := hz.r
  have z3 := hz.v
  unfold LK.afterRecall at ha
  refine dss_env (env' := [_, _, _, _, _, _, _, _, _, _, _, _]) rfl ?_
  refine dss_cons (ds_unpack [2, 3, 4] rfl (pgs_cons (pg_name (i := 2) sc_after_recall.nd rfl (.inl rfl)) (pgs_cons (pg_name (i := 3) sc_after_recall.nd rfl (.inl rfl)) (pgs_cons (pg_name (i := 4) sc_after_recall.nd rfl (.inl rfl)) pgs_nil))) rfl (de_v 0 rfl rfl v8_cache ⟨_, rfl, rfl, (dss_env (env' := [_, _, _, _, _, _, _, _, _, _, _, _]) rfl ?_)⟩))
  refine dss_cons (ds_par3 5 6 7 rfl sc_after_recall.nd rfl rfl rfl (by decide) (by decide) (by decide) rfl rfl rfl (da_cons (de_ix (de_v 1 rfl rfl v8_message (de_int ⟨_, _, rfl, rfl, (da_cons (de_ix (de_v 1 rfl rfl v8_message (de_int ⟨_, _, rfl, rfl, (da_cons (de_ix (de_v 1 rfl rfl v8_message (de_int ⟨_, _, rfl, rfl, (da_nil ⟨_, _, _, rfl, (dss_env (env' := [_, _, _, _, _, _, _, _, _, _, _, _]) rfl ?_)⟩)⟩))))⟩))))⟩)))))
  refine dss_cons (ds_set 8 sc_after_recall.nd rfl (.inl rfl) (de_callH h_entry_of (hr.mono (by decide)) rfl (da_cons (de_v 2 rfl rfl v8_lines (da_cons (de_v 6 rfl rfl v8_line (da_nil ⟨_, _, _, _, rfl, (dss_env (env' := [_, _, _, _, _, _, _, _, _, _, _, _]) rfl ?_)⟩)))))))
  refine dss_cons (ds_if (dt_isN (de_v 8 rfl rfl v8_entry ?_)))
  show (if isNon (entO _ _ _) = true then _ else _)
  rw [isNon_entO]
  cases h1 : LK.get c.lines l with
  | none =>
    rw [h1] at ha
    simp only at ha
    refine dss_cons (ds_set 9 sc_after_recall.nd rfl (.inl rfl) (de_callH h_entry_of (hr.mono (by decide)) rfl (da_cons (de_v 4 rfl rfl v8_leaving (da_cons (de_v 6 rfl rfl v8_line (da_nil ⟨_, _, _, _, rfl, (dss_env (env' := [_, _, _, _, _, _, _, _, _, _, _, _]) rfl ?_)⟩)))))))
    cases h2 : LK.get c.leav l with
    | none => rw [h2] at ha; cases ha
    | some x =>
    obtain ⟨w0, d0⟩ := x
    rw [h2] at ha
    cases ha
    refine dss_cons (ds_set 10 sc_after_recall.nd rfl (.inl rfl) (de_callH h_with_entry (hr.mono (by decide)) rfl (da_cons (de_v 4 rfl rfl v8_leaving (da_cons (de_tup (da_cons (de_v 6 rfl rfl v8_line (da_cons (de_non (da_cons (de_ix (de_v 9 rfl rfl v8_left (de_int ⟨_, _, rfl, rfl, (da_nil ⟨Nat.le_of_ble_eq_true rfl, (da_nil ⟨_, _, _, _, (none, d0), rfl, solid_leavF, z3, (dss_env (env' := [_, _, _, _, _, _, _, _, _, _, _, _]) rfl ?_)⟩)⟩)⟩))))))))))))))
    exact dss_cons (ds_ret (de_tup (da_cons (de_tup (da_cons (de_v 2 rfl rfl v8_lines (da_cons (de_v 3 rfl rfl v8_requested (da_cons (de_v 10 rfl rfl v8_rest (da_nil ⟨Nat.le_of_ble_eq_true rfl, (da_cons (de_tup (da_cons (de_tup (da_cons (de_str (da_cons (de_v 5 rfl rfl v8_core (da_cons (de_v 6 rfl rfl v8_line (da_cons (de_ix (de_v 9 rfl rfl v8_left (de_int ⟨_, _, rfl, rfl, (da_cons (de_ix (de_v 9 rfl rfl v8_left (de_int ⟨_, _, rfl, rfl, (da_nil ⟨Nat.le_of_ble_eq_true rfl, (da_nil ⟨Nat.le_of_ble_eq_true rfl, (da_nil ⟨Nat.le_of_ble_eq_true rfl, hR⟩)⟩)⟩)⟩))))⟩))))))))))))))⟩)))))))))))
  | some x =>
    obtain ⟨st, w0⟩ := x
    rw [h1] at ha
    cases ha
    refine dss_nil ?_
    refine dss_cons (ds_set 11 sc_after_recall.nd rfl (.inl rfl) (de_callH h_without_line (hr.mono (by decide)) rfl (da_cons (de_v 2 rfl rfl v8_lines (da_cons (de_v 6 rfl rfl v8_line (da_nil ⟨_, _, _, _, rfl, solid_lineF, z1, (dss_env (env' := [_, _, _, _, _, _, _, _, _, _, _, _]) rfl ?_)⟩)))))))
    refine dss_cons (ds_if (dt_truth (de_v 7 rfl rfl v8_keep ⟨_, rfl, ?_⟩)))
    have hst : decide (stS st = ("modified" : Str)) = (st == S3.M) := st_modified st
    cases keep with
    | false =>
      refine dss_nil ?_
      refine dss_cons (ds_ret (de_tup (da_cons (de_tup (da_cons (de_v 11 rfl rfl v8_kept (da_cons (de_v 3 rfl rfl v8_requested (da_cons (de_v 4 rfl rfl v8_leaving (da_nil ⟨Nat.le_of_ble_eq_true rfl, (da_cons (de_tup (da_cons (de_tup (da_cons (de_str (da_cons (de_v 5 rfl rfl v8_core (da_cons (de_v 6 rfl rfl v8_line (da_cons (de_ix (de_v 8 rfl rfl v8_entry (de_int ⟨_, _, rfl, rfl, (da_cons (de_eq (de_ix (de_v 8 rfl rfl v8_entry (de_int ⟨_, _, rfl, rfl, (de_str ⟨_, rfl, (da_nil ⟨Nat.le_of_ble_eq_true rfl, (da_nil ⟨Nat.le_of_ble_eq_true rfl, (da_nil ⟨Nat.le_of_ble_eq_true rfl, ?_⟩)⟩)⟩)⟩)⟩)))))⟩))))))))))))))⟩)))))))))))
      rw [hst]; exact hR
    | true =>
      refine dss_cons (ds_set 11 sc_after_recall.nd rfl (.inl rfl) (de_callH h_with_entry (hr.mono (by decide)) rfl (da_cons (de_v 2 rfl rfl v8_lines (da_cons (de_tup (da_cons (de_v 6 rfl rfl v8_line (da_cons (de_str (da_cons (de_ix (de_v 8 rfl rfl v8_entry (de_int ⟨_, _, rfl, rfl, (da_nil ⟨Nat.le_of_ble_eq_true rfl, (da_nil ⟨_, _, _, _, (S3.S, w0), rfl, solid_lineF, z1, (dss_env (env' := [_, _, _, _, _, _, _, _, _, _, _, _]) rfl ?_)⟩)⟩)⟩))))))))))))))
      refine dss_nil ?_
      refine dss_cons (ds_ret (de_tup (da_cons (de_tup (da_cons (de_v 11 rfl rfl v8_kept (da_cons (de_v 3 rfl rfl v8_requested (da_cons (de_v 4 rfl rfl v8_leaving (da_nil ⟨Nat.le_of_ble_eq_true rfl, (da_cons (de_tup (da_cons (de_tup (da_cons (de_str (da_cons (de_v 5 rfl rfl v8_core (da_cons (de_v 6 rfl rfl v8_line (da_cons (de_ix (de_v 8 rfl rfl v8_entry (de_int ⟨_, _, rfl, rfl, (da_cons (de_eq (de_ix (de_v 8 rfl rfl v8_entry (de_int ⟨_, _, rfl, rfl, (de_str ⟨_, rfl, (da_nil ⟨Nat.le_of_ble_eq_true rfl, (da_nil ⟨Nat.le_of_ble_eq_true rfl, (da_nil ⟨Nat.le_of_ble_eq_true rfl, ?_⟩)⟩)⟩)⟩)⟩)))))⟩))))))))))))))⟩)))))))))))
      rw [hst]; exact hR
end
end WK
set_option maxRecDepth 100000
set_option maxHeartbeats 4000000
namespace WK
open PySem PySem.Spec PyProof.Rows L2
open LK (S3 MK Msg Cfg Cache Serv Home Sys)
section
variable {P : Program} {w : World} {K : PySem.W.Frag} {mg : Str → Option Value} {base : Heap} {C : Addr}
/-! ### cache_receives -/
theorem v9_cache : VarOk (defScope (topS 9)) "cache" := ⟨.inl rfl, by decide, by decide⟩
theorem v9_message : VarOk (defScope (topS 9)) "message" := ⟨.inl rfl, by decide, by decide⟩
theorem v9_lines : VarOk (defScope (topS 9)) "lines" := ⟨.inl rfl, by decide, by decide⟩
theorem v9_requested : VarOk (defScope (topS 9)) "requested" := ⟨.inl rfl, by decide, by decide⟩
theorem v9_leaving : VarOk (defScope (topS 9)) "leaving" := ⟨.inl rfl, by decide, by decide⟩
theorem v9_kind : VarOk (defScope (topS 9)) "kind" := ⟨.inl rfl, by decide, by decide⟩
theorem v9_core : VarOk (defScope (topS 9)) "core" := ⟨.inl rfl, by decide, by decide⟩
theorem v9_line : VarOk (defScope (topS 9)) "line" := ⟨.inl rfl, by decide, by decide⟩
theorem v9_present : VarOk (defScope (topS 9)) "present" := ⟨.inl rfl, by decide, by decide⟩
theorem sc_cache_receives : FnScope ["cache", "message", "lines", "requested", "leaving", "kind", "core", "line", "present"] ["cache", "message"] (defScope (topS 9)) := ⟨rfl, rfl, rfl, by decide +kernel, rfl, by decide +kernel, by decide +kernel⟩
theorem wo_len {β : Type} (es : List (Nat × β)) (l : Nat) : (LK.wo es l).length ≤ es.length := List.length_filter_le _ _
def sdCacheR : Sd := fun ds R => ∃ (c : Cache) (m : Msg) (r : Cache × List Msg), ds = [cacheD c, msgD m] ∧ Small c ∧ LK.cacheRecv c m = some r ∧ R (.tup [cacheD r.1, msgsD r.2])
theorem ok_cache_receives {f : Addr} {fd : FuncData} (D1 : Dfn K mg "cache_receives" (topS 9) ["cache", "message"] f fd) (h_without_line : Has P w K mg base 1 "without_line" ["entries", "line"] (SpP K C sdWithout)) (h_after_recall : Has P w K mg base 2 "after_recall" ["cache", "message"] (SpP K C sdRecall)) : Has P w K mg base 3 "cache_receives" ["cache", "message"] (SpP K C sdCacheR) := by
  refine has_of D1 (fn_pure D1.F sc_cache_receives (fun ds R ⟨_, _, _, e, _⟩ => by rw [e]; rfl) fun cdv A outer s H E ds R hr ⟨c, m, rr, eq, hz, ha, hR⟩ => ?_)
  subst eq
  obtain ⟨mc, ml, mk⟩ := m
  have z1 := hz.l
  have z2 := hz.r
  have z3 := hz.v
  refine dss_env (env' := [_, _, _, _, _, _, _, _, _]) rfl ?_
  refine dss_cons (ds_unpack [2, 3, 4] rfl (pgs_cons (pg_name (i := 2) sc_cache_receives.nd rfl (.inl rfl)) (pgs_cons (pg_name (i := 3) sc_cache_receives.nd rfl (.inl rfl)) (pgs_cons (pg_name (i := 4) sc_cache_receives.nd rfl (.inl rfl)) pgs_nil))) rfl (de_v 0 rfl rfl v9_cache ⟨_, rfl, rfl, (dss_env (env' := [_, _, _, _, _, _, _, _, _]) rfl ?_)⟩))
  refine dss_cons (ds_par3 5 6 7 rfl sc_cache_receives.nd rfl rfl rfl (by decide) (by decide) (by decide) rfl rfl rfl (da_cons (de_ix (de_v 1 rfl rfl v9_message (de_int ⟨_, _, rfl, rfl, (da_cons (de_ix (de_v 1 rfl rfl v9_message (de_int ⟨_, _, rfl, rfl, (da_cons (de_ix (de_v 1 rfl rfl v9_message (de_int ⟨_, _, rfl, rfl, (da_nil ⟨_, _, _, rfl, (dss_env (env' := [_, _, _, _, _, _, _, _, _]) rfl ?_)⟩)⟩))))⟩))))⟩)))))
  refine dss_cons (ds_if (dt_eq (de_v 5 rfl rfl v9_kind (de_str ⟨_, rfl, ?_⟩))))
  cases mk with
  | recall keep =>
    show (if decide (("recall" : Str) = "recall") = true then _ else _)
    rw [decide_eq_true rfl, if_pos rfl]
    exact dss_cons (ds_ret (de_callH h_after_recall (hr.mono (by decide)) rfl (da_cons (de_v 0 rfl rfl v9_cache (da_cons (de_v 1 rfl rfl v9_message (da_nil ⟨c, mc, ml, keep, rr, rfl, hz, ha, hR⟩)))))))
  | inval =>
    cases ha
    refine dss_nil ?_
    refine dss_cons (ds_if (dt_eq (de_v 5 rfl rfl v9_kind (de_str ⟨_, rfl, ?_⟩))))
    show (if decide (("invalidate" : Str) = "invalidate") = true then _ else _)
    rw [decide_eq_true rfl, if_pos rfl]
    exact dss_cons (ds_ret (de_tup (da_cons (de_tup (da_cons (de_callH h_without_line (hr.mono (by decide)) rfl (da_cons (de_v 2 rfl rfl v9_lines (da_cons (de_v 7 rfl rfl v9_line (da_nil ⟨_, _, _, _, rfl, solid_lineF, z1, (da_cons (de_v 3 rfl rfl v9_requested (da_cons (de_v 4 rfl rfl v9_leaving (da_nil ⟨Nat.le_of_ble_eq_true rfl, (da_cons (de_tup (da_cons (de_tup (da_cons (de_str (da_cons (de_v 6 rfl rfl v9_core (da_cons (de_v 7 rfl rfl v9_line (da_nil ⟨Nat.le_of_ble_eq_true rfl, (da_nil ⟨Nat.le_of_ble_eq_true rfl, (da_nil ⟨Nat.le_of_ble_eq_true rfl, hR⟩)⟩)⟩)))))))))))⟩)))))⟩)))))))))))
  | grant st w0 =>
    cases ha
    refine dss_nil ?_
    refine dss_cons (ds_if (dt_eq (de_v 5 rfl rfl v9_kind (de_str ⟨_, rfl, ?_⟩))))
    refine dss_nil ?_
    refine dss_cons (ds_if (dt_eq (de_v 5 rfl rfl v9_kind (de_str ⟨_, rfl, ?_⟩))))
    show (if decide (("grant" : Str) = "grant") = true then _ else _)
    rw [decide_eq_true rfl, if_pos rfl]
    have z4 := wo_len c.lines ml
    refine dss_cons (ds_set 8 sc_cache_receives.nd rfl (.inl rfl) (de_cat (de_callH h_without_line (hr.mono (by decide)) rfl (da_cons (de_v 2 rfl rfl v9_lines (da_cons (de_v 7 rfl rfl v9_line (da_nil ⟨_, _, _, _, rfl, solid_lineF, z1, (de_tup (da_cons (de_tup (da_cons (de_v 7 rfl rfl v9_line (da_cons (de_ix (de_v 1 rfl rfl v9_message (de_int ⟨_, _, rfl, rfl, (da_cons (de_ix (de_v 1 rfl rfl v9_message (de_int ⟨_, _, rfl, rfl, (da_nil ⟨Nat.le_of_ble_eq_true rfl, (da_nil ⟨Nat.le_of_ble_eq_true rfl, ⟨_, catD_tup (by simp only [List.length_map, List.length_cons, List.length_nil]; omega), (dss_env (env' := [_, _, _, _, _, _, _, _, _]) rfl ?_)⟩⟩)⟩)⟩))))⟩)))))))))⟩))))))))
    refine dss_cons (ds_ret (de_tup (da_cons (de_tup (da_cons (de_v 8 rfl rfl v9_present (da_cons (de_callH h_without_line (hr.mono (by decide)) rfl (da_cons (de_v 3 rfl rfl v9_requested (da_cons (de_v 7 rfl rfl v9_line (da_nil ⟨_, _, _, _, rfl, solid_reqF, z2, (da_cons (de_v 4 rfl rfl v9_leaving (da_nil ⟨Nat.le_of_ble_eq_true rfl, (da_cons (de_tup (da_cons (de_tup (da_cons (de_str (da_cons (de_v 6 rfl rfl v9_core (da_cons (de_v 7 rfl rfl v9_line (da_nil ⟨Nat.le_of_ble_eq_true rfl, (da_nil ⟨Nat.le_of_ble_eq_true rfl, (da_nil ⟨Nat.le_of_ble_eq_true rfl, ?_⟩)⟩)⟩)))))))))))⟩)))⟩)))))))))))))
    simp only [List.map_append, cacheD] at hR
    exact hR
  | confirm =>
    cases ha
    refine dss_nil ?_
    refine dss_cons (ds_if (dt_eq (de_v 5 rfl rfl v9_kind (de_str ⟨_, rfl, ?_⟩))))
    refine dss_nil ?_
    refine dss_cons (ds_if (dt_eq (de_v 5 rfl rfl v9_kind (de_str ⟨_, rfl, ?_⟩))))
    refine dss_nil ?_
    exact dss_cons (ds_ret (de_tup (da_cons (de_tup (da_cons (de_v 2 rfl rfl v9_lines (da_cons (de_v 3 rfl rfl v9_requested (da_cons (de_callH h_without_line (hr.mono (by decide)) rfl (da_cons (de_v 4 rfl rfl v9_leaving (da_cons (de_v 7 rfl rfl v9_line (da_nil ⟨_, _, _, _, rfl, solid_leavF, z3, (da_nil ⟨Nat.le_of_ble_eq_true rfl, (da_cons (de_tup (da_nil ⟨Nat.le_of_ble_eq_true rfl, (da_nil ⟨Nat.le_of_ble_eq_true rfl, hR⟩)⟩)))⟩)⟩)))))))))))))))
  | _ => cases ha
/-! ### can_receive -/
theorem v13_home : VarOk (defScope (topS 13)) "home" := ⟨.inl rfl, by decide, by decide⟩
theorem v13_message : VarOk (defScope (topS 13)) "message" := ⟨.inl rfl, by decide, by decide⟩
theorem sc_can_receive : FnScope ["home", "message"] ["home", "message"] (defScope (topS 13)) := ⟨rfl, rfl, rfl, by decide +kernel, rfl, by decide +kernel, by decide +kernel⟩
structure TGlb (K : PySem.W.Frag) (C : Addr) (mg : Str → Option Value) : Prop where
  EMPTY_CACHE : Glb K C mg "EMPTY_CACHE" (cacheD ⟨[], [], []⟩)
  START_HOME : Glb K C mg "START_HOME" (homeD ⟨none, [], none⟩)
  WAITS_FOR_SERVICE : Glb K C mg "WAITS_FOR_SERVICE" (.tup [.str "get shared", .str "get modified", .str "give up"])
  TO_CACHES : Glb K C mg "TO_CACHES" (.tup [.str "invalidate", .str "recall", .str "grant", .str "confirm"])
def sdCan : Sd := fun ds R => ∃ (h : Home) (m : Msg), ds = [homeD h, msgD m] ∧ R (.bl (LK.canRecv h m.k))
theorem isNon_svD (o : Option Serv) : isNon (svD o) = o.isNone := by cases o <;> rfl
theorem in_waits (k : MK) : inD (.str (kindS k)) (.tup [.str "get shared", .str "get modified", .str "give up"]) = some k.waits := by
  cases k <;> rfl
theorem in_caches (k : MK) : inD (.str (kindS k)) (.tup [.str "invalidate", .str "recall", .str "grant", .str "confirm"]) = some k.toCache := by
  cases k <;> rfl
theorem ok_can_receive {f : Addr} {fd : FuncData} (D1 : Dfn K mg "can_receive" (topS 13) ["home", "message"] f fd) (T : TGlb K C mg) : Has P w K mg base 1 "can_receive" ["home", "message"] (SpP K C sdCan) := by
  refine has_of D1 (fn_pure D1.F sc_can_receive (fun ds R ⟨_, _, e, _⟩ => by rw [e]; rfl) fun cdv A outer s H E ds R hr ⟨h, m, eq, hR⟩ => ?_)
  subst eq
  refine dss_env (env' := [_, _]) rfl ?_
  refine dss_cons (ds_ret (de_or2 (p3 := ⟨0, 0, 0, 0⟩) (de_isN (de_ix (de_v 0 rfl rfl v13_home (de_int ⟨_, _, rfl, rfl, ⟨_, rfl, ?_⟩⟩))))))
  rw [isNon_svD]
  unfold LK.canRecv at hR
  cases h1 : h.sv with
  | none =>
    rw [h1] at hR
    exact hR
  | some x =>
    rw [h1] at hR
    exact (de_notIn (de_ix (de_v 1 rfl rfl v13_message (de_int ⟨_, _, rfl, rfl, (de_glb rfl T.WAITS_FOR_SERVICE ⟨_, in_waits m.k, hR⟩)⟩))))
end
end WK
set_option maxRecDepth 100000
set_option maxHeartbeats 4000000
namespace WK
open PySem PySem.Spec PyProof.Rows L2
open LK (S3 MK Msg Cfg Cache Serv Home Sys)
section
variable {P : Program} {w : World} {K : PySem.W.Frag} {mg : Str → Option Value} {base : Heap} {C : Addr}
def intD : D → Int
  | .int i => i
  | _ => 0
theorem filt_nat (xs : List Nat) (k : Nat) : ((xs.map natD).filter (fun d => !decide (intD d = (k : Int)))).map id = (xs.filter (fun x => x != k)).map natD := by
  rw [List.map_id, List.filter_map]
  have e1 : ((fun d => !decide (intD d = (k : Int))) ∘ natD : Nat → Bool) = (fun x => x != k) := by
    funext x; exact nat_ne x k
  rw [e1]
theorem isNon_optI (o : Option Nat) : isNon (optI o) = o.isNone := by cases o <;> rfl
theorem isNon_optW (o : Option Nat) : isNon (optW o) = o.isNone := by cases o <;> rfl
def begunL (h : Home) (w k l : Nat) (e : Bool) : Home × List Msg :=
  match h.owner with
  | some o => (⟨some o, h.sh, some ⟨k, e, [], true, none, false⟩⟩, [⟨o, l, .recall (!e)⟩])
  | none => (⟨none, h.sh, some ⟨k, e, if e then h.sh.filter (fun x => x != k) else [], false, some w, false⟩⟩, (if e then h.sh.filter (fun x => x != k) else []).map (fun x => ⟨x, l, .inval⟩))
theorem homeReq_eq (g : Cfg) (h : Home) (w k l : Nat) (e : Bool) : ∃ s, (begunL h w k l e).1.sv = some s ∧ LK.homeReq g h w k l e = ((LK.grantIf g (begunL h w k l e).1.owner (begunL h w k l e).1.sh s l).1, (begunL h w k l e).2 ++ (LK.grantIf g (begunL h w k l e).1.owner (begunL h w k l e).1.sh s l).2) := by
  unfold begunL LK.homeReq
  cases h.owner with
  | some o => exact ⟨_, rfl, by simp [LK.grantIf]⟩
  | none => exact ⟨_, rfl, rfl⟩
/-! ### begun -/
theorem v14_home : VarOk (defScope (topS 14)) "home" := ⟨.inl rfl, by decide, by decide⟩
theorem v14_words : VarOk (defScope (topS 14)) "words" := ⟨.inl rfl, by decide, by decide⟩
theorem v14_message : VarOk (defScope (topS 14)) "message" := ⟨.inl rfl, by decide, by decide⟩
theorem v14_owner : VarOk (defScope (topS 14)) "owner" := ⟨.inl rfl, by decide, by decide⟩
theorem v14_sharers : VarOk (defScope (topS 14)) "sharers" := ⟨.inl rfl, by decide, by decide⟩
theorem v14_core : VarOk (defScope (topS 14)) "core" := ⟨.inr (.inl rfl), by decide, by decide⟩
theorem v14_line : VarOk (defScope (topS 14)) "line" := ⟨.inr (.inl rfl), by decide, by decide⟩
theorem v14_exclusive : VarOk (defScope (topS 14)) "exclusive" := ⟨.inl rfl, by decide, by decide⟩
theorem v14_serving : VarOk (defScope (topS 14)) "serving" := ⟨.inl rfl, by decide, by decide⟩
theorem v14_awaited : VarOk (defScope (topS 14)) "awaited" := ⟨.inl rfl, by decide, by decide⟩
theorem v14_messages : VarOk (defScope (topS 14)) "messages" := ⟨.inl rfl, by decide, by decide⟩
theorem sc_begun : FnScope ["home", "words", "message", "owner", "sharers", "core", "line", "exclusive", "serving", "awaited", "messages", "sharer"] ["home", "words", "message"] (defScope (topS 14)) := ⟨rfl, rfl, rfl, by decide +kernel, rfl, by decide +kernel, by decide +kernel⟩
def sdBegun : Sd := fun ds R => ∃ (h : Home) (w k l : Nat) (e : Bool), ds = [homeD h, .blob w, msgD ⟨k, l, LK.getK e⟩] ∧ h.sh.length ≤ 1000 ∧ R (.tup [homeD (begunL h w k l e).1, msgsD (begunL h w k l e).2])
theorem ok_begun {f : Addr} {fd : FuncData} (D1 : Dfn K mg "begun" (topS 14) ["home", "words", "message"] f fd) (no_tuple : mg "tuple" = none) : Has P w K mg base 1 "begun" ["home", "words", "message"] (SpP K C sdBegun) := by
  refine has_of D1 (fn_pure D1.F sc_begun (fun ds R ⟨_, _, _, _, _, e, _⟩ => by rw [e]; rfl) fun cdv A outer s H E ds R hr ⟨h, w0, k, l, e, eq, hz, hR⟩ => ?_)
  subst eq
  obtain ⟨ho, hsh, hsv⟩ := h
  have hz : hsh.length ≤ 1000 := hz
  have hk : msgD ⟨k, l, LK.getK e⟩ = .tup [.str (if e then "get modified" else "get shared"), .int k, .int l] := by cases e <;> rfl
  rw [hk]
  have hd : decide ((if e then "get modified" else "get shared" : Str) = "get modified") = e := by cases e <;> decide
  refine dss_env (env' := [_, _, _, _, _, _, _, _, _, _, _, _]) rfl ?_
  refine dss_cons (ds_par 3 4 rfl sc_begun.nd rfl rfl (by decide) rfl rfl (da_cons (de_ix (de_v 0 rfl rfl v14_home (de_int ⟨_, _, rfl, rfl, (da_cons (de_ix (de_v 0 rfl rfl v14_home (de_int ⟨_, _, rfl, rfl, (da_nil ⟨_, _, rfl, (dss_env (env' := [_, _, _, _, _, _, _, _, _, _, _, _]) rfl ?_)⟩)⟩))))⟩)))))
  refine dss_cons (ds_unpack [5, 6, 7] rfl (pgs_cons (pg_name (i := 5) sc_begun.nd rfl (.inr rfl)) (pgs_cons (pg_name (i := 6) sc_begun.nd rfl (.inr rfl)) (pgs_cons (pg_name (i := 7) sc_begun.nd rfl (.inl rfl)) pgs_nil))) rfl (de_tup (da_cons (de_ix (de_v 2 rfl rfl v14_message (de_int ⟨_, _, rfl, rfl, (da_cons (de_ix (de_v 2 rfl rfl v14_message (de_int ⟨_, _, rfl, rfl, (da_cons (de_eq (de_ix (de_v 2 rfl rfl v14_message (de_int ⟨_, _, rfl, rfl, (de_str ⟨_, rfl, (da_nil ⟨Nat.le_of_ble_eq_true rfl, ⟨_, rfl, rfl, (dss_env (env' := [_, _, _, _, _, _, _, _, _, _, _, _]) rfl ?_)⟩⟩)⟩)⟩)))))⟩))))⟩))))))
  rw [hd]
  refine dss_cons (ds_if (dt_notN (de_v 3 rfl rfl v14_owner ?_)))
  show (if (!isNon (optI ho)) = true then _ else _)
  rw [isNon_optI]
  cases ho with
  | some o1 =>
    refine dss_cons (ds_set 8 sc_begun.nd rfl (.inl rfl) (de_tup (da_cons (de_v 5 rfl rfl v14_core (da_cons (de_v 7 rfl rfl v14_exclusive (da_cons (de_tup (da_nil ⟨Nat.le_of_ble_eq_true rfl, (da_cons (de_bl (da_cons (de_non (da_cons (de_bl (da_nil ⟨Nat.le_of_ble_eq_true rfl, (dss_env (env' := [_, _, _, _, _, _, _, _, _, _, _, _]) rfl ?_)⟩)))))))⟩)))))))))
    exact dss_cons (ds_ret (de_tup (da_cons (de_tup (da_cons (de_v 3 rfl rfl v14_owner (da_cons (de_v 4 rfl rfl v14_sharers (da_cons (de_v 8 rfl rfl v14_serving (da_nil ⟨Nat.le_of_ble_eq_true rfl, (da_cons (de_tup (da_cons (de_tup (da_cons (de_str (da_cons (de_v 3 rfl rfl v14_owner (da_cons (de_v 6 rfl rfl v14_line (da_cons (de_not (de_v 7 rfl rfl v14_exclusive ⟨_, rfl, (da_nil ⟨Nat.le_of_ble_eq_true rfl, (da_nil ⟨Nat.le_of_ble_eq_true rfl, (da_nil ⟨Nat.le_of_ble_eq_true rfl, hR⟩)⟩)⟩)⟩)))))))))))))⟩)))))))))))
  | none =>
    refine dss_nil ?_
    have fin : ∀ {aw : List Nat}, aw.length ≤ 1000 → R (.tup [homeD ⟨none, hsh, some ⟨k, e, aw, false, some w0, false⟩⟩, msgsD (aw.map (fun x => ⟨x, l, .inval⟩))]) →
      DSs (cxOf CX0 P w K mg base ["home", "words", "message", "owner", "sharers", "core", "line", "exclusive", "serving", "awaited", "messages", "sharer"] "begun" (defScope (topS 14)) f cdv A outer s H E).nox C none ((defBody (topS 14)).drop 5)
        [some (homeD ⟨none, hsh, hsv⟩), some (.blob w0), some (.tup [.str (if e then "get modified" else "get shared"), .int k, .int l]), some .non, some (.tup (hsh.map natD)), some (.int k), some (.int l), some (.bl e), none, some (.tup (aw.map natD)), none, none] ⟨fun _ => R .non, R, fun _ => False, fun _ => False⟩ := fun {aw} hz2 hR => by
      refine dss_cons (ds_set 10 sc_begun.nd rfl (.inl rfl) (de_tupleOf rfl no_tuple (dl_lc (i := 11) rfl sc_begun.nd (blkOk_by (N := ["home", "words", "message", "owner", "sharers", "core", "line", "exclusive", "serving", "awaited", "messages", "sharer"]) (sc := defScope (topS 14)) (by decide +kernel)) rfl rfl (de_v 9 rfl rfl v14_awaited ⟨_, fun _ => true, fun d => .tup [.str "invalidate", d, .int l], rfl, by rw [List.length_map]; omega, fun d hd s H C2 cl fp => dts_nil rfl, fun d hd _ s H C2 cl fp => ?_, fun d hd _ => ?_, ?_⟩))))
      · exact (de_tup (da_cons (de_str (da_cons (de_var 11 rfl rfl (.inl rfl) (da_cons (de_var 6 rfl rfl (.inr (.inl rfl)) (da_nil ⟨Nat.le_of_ble_eq_true rfl, rfl⟩))))))))
      · obtain ⟨x, hx, rfl⟩ := List.mem_map.mp hd
        rfl
      · refine dss_cons (ds_ret (de_tup (da_cons (de_tup (da_cons (de_v 3 rfl rfl v14_owner (da_cons (de_v 4 rfl rfl v14_sharers (da_cons (de_tup (da_cons (de_v 5 rfl rfl v14_core (da_cons (de_v 7 rfl rfl v14_exclusive (da_cons (de_v 9 rfl rfl v14_awaited (da_cons (de_bl (da_cons (de_v 1 rfl rfl v14_words (da_cons (de_bl (da_nil ⟨Nat.le_of_ble_eq_true rfl, (da_nil ⟨Nat.le_of_ble_eq_true rfl, (da_cons (de_v 10 rfl rfl v14_messages (da_nil ⟨Nat.le_of_ble_eq_true rfl, ?_⟩)))⟩)⟩)))))))))))))))))))))))
        rw [List.filter_eq_self.mpr (fun _ _ => rfl), List.map_map]
        unfold msgsD at hR
        rw [List.map_map] at hR
        exact hR
    refine dss_cons (ds_set 9 sc_begun.nd rfl (.inl rfl) (de_tup (da_nil ⟨Nat.le_of_ble_eq_true rfl, (dss_env (env' := [_, _, _, _, _, _, _, _, _, _, _, _]) rfl ?_)⟩)))
    refine dss_cons (ds_if (dt_truth (de_v 7 rfl rfl v14_exclusive ⟨_, rfl, ?_⟩)))
    cases e with
    | false =>
      refine dss_nil ?_
      exact fin (aw := []) (by decide) hR
    | true =>
      refine dss_cons (ds_set 9 sc_begun.nd rfl (.inl rfl) (de_tupleOf rfl no_tuple (dl_lc (i := 11) rfl sc_begun.nd (blkOk_by (N := ["home", "words", "message", "owner", "sharers", "core", "line", "exclusive", "serving", "awaited", "messages", "sharer"]) (sc := defScope (topS 14)) (by decide +kernel)) rfl rfl (de_v 4 rfl rfl v14_sharers ⟨_, fun d => !decide (intD d = (k : Int)), id, rfl, by rw [List.length_map]; omega, fun d hd s H C2 cl fp => ?_, fun d hd _ s H C2 cl fp => ?_, fun d hd _ => ?_, ?_⟩))))
      · obtain ⟨x, hx, rfl⟩ := List.mem_map.mp hd
        exact dts_one (dt_ne (de_var 11 rfl rfl (.inl rfl) (de_var 5 rfl rfl (.inr (.inl rfl)) ⟨_, rfl, rfl⟩)))
      · exact (de_var 11 rfl rfl (.inl rfl) rfl)
      · obtain ⟨x, hx, rfl⟩ := List.mem_map.mp hd
        rfl
      · rw [filt_nat]
        refine dss_nil ?_
        exact fin (aw := hsh.filter (fun x => x != k)) (Nat.le_trans (List.length_filter_le _ _) hz) hR
/-! ### invalidated -/
theorem v15_home : VarOk (defScope (topS 15)) "home" := ⟨.inl rfl, by decide, by decide⟩
theorem v15_owner : VarOk (defScope (topS 15)) "owner" := ⟨.inl rfl, by decide, by decide⟩
theorem v15_sharers : VarOk (defScope (topS 15)) "sharers" := ⟨.inl rfl, by decide, by decide⟩
theorem v15_serving : VarOk (defScope (topS 15)) "serving" := ⟨.inl rfl, by decide, by decide⟩
theorem v15_core : VarOk (defScope (topS 15)) "core" := ⟨.inl rfl, by decide, by decide⟩
theorem v15_exclusive : VarOk (defScope (topS 15)) "exclusive" := ⟨.inl rfl, by decide, by decide⟩
theorem v15_awaited : VarOk (defScope (topS 15)) "awaited" := ⟨.inl rfl, by decide, by decide⟩
theorem v15_recalled : VarOk (defScope (topS 15)) "recalled" := ⟨.inl rfl, by decide, by decide⟩
theorem v15_words : VarOk (defScope (topS 15)) "words" := ⟨.inl rfl, by decide, by decide⟩
theorem v15_granted : VarOk (defScope (topS 15)) "granted" := ⟨.inl rfl, by decide, by decide⟩
theorem sc_invalidated : FnScope ["home", "sharer", "owner", "sharers", "serving", "core", "exclusive", "awaited", "recalled", "words", "granted", "other"] ["home", "sharer"] (defScope (topS 15)) := ⟨rfl, rfl, rfl, by decide +kernel, rfl, by decide +kernel, by decide +kernel⟩
def sdInvd : Sd := fun ds R => ∃ (h : Home) (k : Nat) (s : Serv), ds = [homeD h, .int k] ∧ h.sv = some s ∧ h.sh.length ≤ 1000 ∧ s.wait.length ≤ 1000 ∧ R (homeD ⟨h.owner, h.sh.filter (fun x => x != k), some { s with wait := s.wait.filter (fun x => x != k) }⟩)
theorem ok_invalidated {f : Addr} {fd : FuncData} (D1 : Dfn K mg "invalidated" (topS 15) ["home", "sharer"] f fd) (no_tuple : mg "tuple" = none) : Has P w K mg base 1 "invalidated" ["home", "sharer"] (SpP K C sdInvd) := by
  refine has_of D1 (fn_pure D1.F sc_invalidated (fun ds R ⟨_, _, _, e, _⟩ => by rw [e]; rfl) fun cdv A outer s H E ds R hr ⟨h, k, sv, eq, hs, hz, hz2, hR⟩ => ?_)
  subst eq
  obtain ⟨ho, hsh, hsv⟩ := h
  have hs : hsv = some sv := hs
  subst hs
  have hz : hsh.length ≤ 1000 := hz
  refine dss_env (env' := [_, _, _, _, _, _, _, _, _, _, _, _]) rfl ?_
  refine dss_cons (ds_unpack [2, 3, 4] rfl (pgs_cons (pg_name (i := 2) sc_invalidated.nd rfl (.inl rfl)) (pgs_cons (pg_name (i := 3) sc_invalidated.nd rfl (.inl rfl)) (pgs_cons (pg_name (i := 4) sc_invalidated.nd rfl (.inl rfl)) pgs_nil))) rfl (de_v 0 rfl rfl v15_home ⟨_, rfl, rfl, (dss_env (env' := [_, _, _, _, _, _, _, _, _, _, _, _]) rfl ?_)⟩))
  refine dss_cons (ds_unpack [5, 6, 7, 8, 9, 10] rfl (pgs_cons (pg_name (i := 5) sc_invalidated.nd rfl (.inl rfl)) (pgs_cons (pg_name (i := 6) sc_invalidated.nd rfl (.inl rfl)) (pgs_cons (pg_name (i := 7) sc_invalidated.nd rfl (.inl rfl)) (pgs_cons (pg_name (i := 8) sc_invalidated.nd rfl (.inl rfl)) (pgs_cons (pg_name (i := 9) sc_invalidated.nd rfl (.inl rfl)) (pgs_cons (pg_name (i := 10) sc_invalidated.nd rfl (.inl rfl)) pgs_nil)))))) rfl (de_v 4 rfl rfl v15_serving ⟨_, rfl, rfl, (dss_env (env' := [_, _, _, _, _, _, _, _, _, _, _, _]) rfl ?_)⟩))
  refine dss_cons (ds_set 3 sc_invalidated.nd rfl (.inl rfl) (de_tupleOf rfl no_tuple (dl_lc (i := 11) rfl sc_invalidated.nd (blkOk_by (N := ["home", "sharer", "owner", "sharers", "serving", "core", "exclusive", "awaited", "recalled", "words", "granted", "other"]) (sc := defScope (topS 15)) (by decide +kernel)) rfl rfl (de_v 3 rfl rfl v15_sharers ⟨_, fun d => !decide (intD d = (k : Int)), id, rfl, by rw [List.length_map]; omega, fun d hd s H C2 cl fp => ?_, fun d hd _ s H C2 cl fp => ?_, fun d hd _ => ?_, ?_⟩))))
  · obtain ⟨x, hx, rfl⟩ := List.mem_map.mp hd
    exact dts_one (dt_ne (de_var 11 rfl rfl (.inl rfl) (de_var 1 rfl rfl (.inr (.inl rfl)) ⟨_, rfl, rfl⟩)))
  · exact (de_var 11 rfl rfl (.inl rfl) rfl)
  · obtain ⟨x, hx, rfl⟩ := List.mem_map.mp hd
    rfl
  · rw [filt_nat]
    refine dss_cons (ds_set 7 sc_invalidated.nd rfl (.inl rfl) (de_tupleOf rfl no_tuple (dl_lc (i := 11) rfl sc_invalidated.nd (blkOk_by (N := ["home", "sharer", "owner", "sharers", "serving", "core", "exclusive", "awaited", "recalled", "words", "granted", "other"]) (sc := defScope (topS 15)) (by decide +kernel)) rfl rfl (de_v 7 rfl rfl v15_awaited ⟨_, fun d => !decide (intD d = (k : Int)), id, rfl, by rw [List.length_map]; omega, fun d hd s H C2 cl fp => ?_, fun d hd _ s H C2 cl fp => ?_, fun d hd _ => ?_, ?_⟩))))
    · obtain ⟨x, hx, rfl⟩ := List.mem_map.mp hd
      exact dts_one (dt_ne (de_var 11 rfl rfl (.inl rfl) (de_var 1 rfl rfl (.inr (.inl rfl)) ⟨_, rfl, rfl⟩)))
    · exact (de_var 11 rfl rfl (.inl rfl) rfl)
    · obtain ⟨x, hx, rfl⟩ := List.mem_map.mp hd
      rfl
    · rw [filt_nat]
      exact dss_cons (ds_ret (de_tup (da_cons (de_v 2 rfl rfl v15_owner (da_cons (de_v 3 rfl rfl v15_sharers (da_cons (de_tup (da_cons (de_v 5 rfl rfl v15_core (da_cons (de_v 6 rfl rfl v15_exclusive (da_cons (de_v 7 rfl rfl v15_awaited (da_cons (de_v 8 rfl rfl v15_recalled (da_cons (de_v 9 rfl rfl v15_words (da_cons (de_v 10 rfl rfl v15_granted (da_nil ⟨Nat.le_of_ble_eq_true rfl, (da_nil ⟨Nat.le_of_ble_eq_true rfl, hR⟩)⟩)))))))))))))))))))))
/-! ### returned -/
theorem v16_home : VarOk (defScope (topS 16)) "home" := ⟨.inl rfl, by decide, by decide⟩
theorem v16_message : VarOk (defScope (topS 16)) "message" := ⟨.inl rfl, by decide, by decide⟩
theorem v16_serving : VarOk (defScope (topS 16)) "serving" := ⟨.inl rfl, by decide, by decide⟩
theorem v16_core : VarOk (defScope (topS 16)) "core" := ⟨.inl rfl, by decide, by decide⟩
theorem v16_exclusive : VarOk (defScope (topS 16)) "exclusive" := ⟨.inl rfl, by decide, by decide⟩
theorem v16_awaited : VarOk (defScope (topS 16)) "awaited" := ⟨.inl rfl, by decide, by decide⟩
theorem v16_granted : VarOk (defScope (topS 16)) "granted" := ⟨.inl rfl, by decide, by decide⟩
theorem v16_sharers : VarOk (defScope (topS 16)) "sharers" := ⟨.inl rfl, by decide, by decide⟩
theorem sc_returned : FnScope ["home", "message", "serving", "core", "exclusive", "awaited", "granted", "sharers"] ["home", "message"] (defScope (topS 16)) := ⟨rfl, rfl, rfl, by decide +kernel, rfl, by decide +kernel, by decide +kernel⟩
def sdRet : Sd := fun ds R => ∃ (h : Home) (k l : Nat) (mw : Option Nat) (d : Bool) (s : Serv), ds = [homeD h, msgD ⟨k, l, .returned mw d⟩] ∧ h.sv = some s ∧ R (homeD ⟨none, if s.ex then [] else [k], some { s with rcl := false, w := mw }⟩)
theorem ok_returned {f : Addr} {fd : FuncData} (D1 : Dfn K mg "returned" (topS 16) ["home", "message"] f fd) : Has P w K mg base 1 "returned" ["home", "message"] (SpP K C sdRet) := by
  refine has_of D1 (fn_pure D1.F sc_returned (fun ds R ⟨_, _, _, _, _, _, e, _⟩ => by rw [e]; rfl) fun cdv A outer s H E ds R hr ⟨h, k, l, mw, d, sv, eq, hs, hR⟩ => ?_)
  subst eq
  obtain ⟨ho, hsh, hsv⟩ := h
  have hs : hsv = some sv := hs
  subst hs
  obtain ⟨s1, s2, s3, s4, s5, s6⟩ := sv
  refine dss_env (env' := [_, _, _, _, _, _, _, _]) rfl ?_
  refine dss_cons (ds_set 2 sc_returned.nd rfl (.inl rfl) (de_ix (de_v 0 rfl rfl v16_home (de_int ⟨_, _, rfl, rfl, (dss_env (env' := [_, _, _, _, _, _, _, _]) rfl ?_)⟩))))
  refine dss_cons (ds_unpack [3, 4, 5, 6] rfl (pgs_cons (pg_name (i := 3) sc_returned.nd rfl (.inl rfl)) (pgs_cons (pg_name (i := 4) sc_returned.nd rfl (.inl rfl)) (pgs_cons (pg_name (i := 5) sc_returned.nd rfl (.inl rfl)) (pgs_cons (pg_name (i := 6) sc_returned.nd rfl (.inl rfl)) pgs_nil)))) rfl (de_tup (da_cons (de_ix (de_v 2 rfl rfl v16_serving (de_int ⟨_, _, rfl, rfl, (da_cons (de_ix (de_v 2 rfl rfl v16_serving (de_int ⟨_, _, rfl, rfl, (da_cons (de_ix (de_v 2 rfl rfl v16_serving (de_int ⟨_, _, rfl, rfl, (da_cons (de_ix (de_v 2 rfl rfl v16_serving (de_int ⟨_, _, rfl, rfl, (da_nil ⟨Nat.le_of_ble_eq_true rfl, ⟨_, rfl, rfl, (dss_env (env' := [_, _, _, _, _, _, _, _]) rfl ?_)⟩⟩)⟩))))⟩))))⟩))))⟩))))))
  refine dss_cons (ds_set 7 sc_returned.nd rfl (.inl rfl) (de_ifExp (dt_truth (de_v 4 rfl rfl v16_exclusive ⟨_, rfl, ?_⟩))))
  cases s2 with
  | true =>
    refine (de_tup (da_nil ⟨Nat.le_of_ble_eq_true rfl, ?_⟩))
    exact dss_cons (ds_ret (de_tup (da_cons (de_non (da_cons (de_v 7 rfl rfl v16_sharers (da_cons (de_tup (da_cons (de_v 3 rfl rfl v16_core (da_cons (de_v 4 rfl rfl v16_exclusive (da_cons (de_v 5 rfl rfl v16_awaited (da_cons (de_bl (da_cons (de_ix (de_v 1 rfl rfl v16_message (de_int ⟨_, _, rfl, rfl, (da_cons (de_v 6 rfl rfl v16_granted (da_nil ⟨Nat.le_of_ble_eq_true rfl, (da_nil ⟨Nat.le_of_ble_eq_true rfl, hR⟩)⟩)))⟩))))))))))))))))))))
  | false =>
    refine (de_tup (da_cons (de_ix (de_v 1 rfl rfl v16_message (de_int ⟨_, _, rfl, rfl, (da_nil ⟨Nat.le_of_ble_eq_true rfl, ?_⟩)⟩)))))
    exact dss_cons (ds_ret (de_tup (da_cons (de_non (da_cons (de_v 7 rfl rfl v16_sharers (da_cons (de_tup (da_cons (de_v 3 rfl rfl v16_core (da_cons (de_v 4 rfl rfl v16_exclusive (da_cons (de_v 5 rfl rfl v16_awaited (da_cons (de_bl (da_cons (de_ix (de_v 1 rfl rfl v16_message (de_int ⟨_, _, rfl, rfl, (da_cons (de_v 6 rfl rfl v16_granted (da_nil ⟨Nat.le_of_ble_eq_true rfl, (da_nil ⟨Nat.le_of_ble_eq_true rfl, hR⟩)⟩)))⟩))))))))))))))))))))
end
end WK
set_option maxRecDepth 100000
set_option maxHeartbeats 4000000
namespace WK
open PySem PySem.Spec PyProof.Rows L2
open LK (S3 MK Msg Cfg Cache Serv Home Sys)
section
variable {P : Program} {w : World} {K : PySem.W.Frag} {mg : Str → Option Value} {base : Heap} {C : Addr}
/-! ### grant_if_ready -/
theorem v17_config : VarOk (defScope (topS 17)) "config" := ⟨.inl rfl, by decide, by decide⟩
theorem v17_home : VarOk (defScope (topS 17)) "home" := ⟨.inl rfl, by decide, by decide⟩
theorem v17_line : VarOk (defScope (topS 17)) "line" := ⟨.inl rfl, by decide, by decide⟩
theorem v17_owner : VarOk (defScope (topS 17)) "owner" := ⟨.inl rfl, by decide, by decide⟩
theorem v17_sharers : VarOk (defScope (topS 17)) "sharers" := ⟨.inl rfl, by decide, by decide⟩
theorem v17_serving : VarOk (defScope (topS 17)) "serving" := ⟨.inl rfl, by decide, by decide⟩
theorem v17_core : VarOk (defScope (topS 17)) "core" := ⟨.inl rfl, by decide, by decide⟩
theorem v17_exclusive : VarOk (defScope (topS 17)) "exclusive" := ⟨.inl rfl, by decide, by decide⟩
theorem v17_awaited : VarOk (defScope (topS 17)) "awaited" := ⟨.inl rfl, by decide, by decide⟩
theorem v17_recalled : VarOk (defScope (topS 17)) "recalled" := ⟨.inl rfl, by decide, by decide⟩
theorem v17_words : VarOk (defScope (topS 17)) "words" := ⟨.inl rfl, by decide, by decide⟩
theorem v17_granted : VarOk (defScope (topS 17)) "granted" := ⟨.inl rfl, by decide, by decide⟩
theorem v17_state : VarOk (defScope (topS 17)) "state" := ⟨.inl rfl, by decide, by decide⟩
theorem sc_grant_if_ready : FnScope ["config", "home", "line", "owner", "sharers", "serving", "core", "exclusive", "awaited", "recalled", "words", "granted", "state"] ["config", "home", "line"] (defScope (topS 17)) := ⟨rfl, rfl, rfl, by decide +kernel, rfl, by decide +kernel, by decide +kernel⟩
theorem emp_map {α : Type} (f : α → D) (xs : List α) : (xs.map f).isEmpty = xs.isEmpty := by cases xs <;> rfl
theorem in_nats (k : Nat) : ∀ xs : List Nat, inD (.int k) (.tup (xs.map natD)) = some (xs.contains k)
  | [] => rfl
  | x :: xs => by
    have ih := in_nats k xs
    unfold inD at ih ⊢
    simp only at ih ⊢
    rw [List.map_cons, List.foldr_cons, ih, List.contains_cons]
    show some ((x : Int) == (k : Int) || xs.contains k) = some (k == x || xs.contains k)
    have e1 : ((x : Int) == (k : Int)) = (k == x) := by
      by_cases h : x = k
      · subst h; simp
      · have h1 : ¬ (x : Int) = (k : Int) := by omega
        have h2 : ¬ k = x := fun q => h q.symm
        rw [beq_eq_false_iff_ne.mpr h1, beq_eq_false_iff_ne.mpr h2]
    rw [e1]
def sdGrant : Sd := fun ds R => ∃ (g : Cfg) (ho : Option Nat) (sh : List Nat) (s : Serv) (l : Nat), ds = [.cfg g, homeD ⟨ho, sh, some s⟩, .int l] ∧ sh.length ≤ 1000 ∧ R (.tup [homeD (LK.grantIf g ho sh s l).1, msgsD (LK.grantIf g ho sh s l).2])
theorem ok_grant_if_ready {f : Addr} {fd : FuncData} (D1 : Dfn K mg "grant_if_ready" (topS 17) ["config", "home", "line"] f fd) (T : TCfg K C mg) : Has P w K mg base 1 "grant_if_ready" ["config", "home", "line"] (SpP K C sdGrant) := by
  refine has_of D1 (fn_pure D1.F sc_grant_if_ready (fun ds R ⟨_, _, _, _, _, e, _⟩ => by rw [e]; rfl) fun cdv A outer s H E ds R hr ⟨g, ho, sh, sv, l, eq, hz, hR⟩ => ?_)
  subst eq
  obtain ⟨c, ex, wt, rcl, w0, gr⟩ := sv
  refine dss_env (env' := [_, _, _, _, _, _, _, _, _, _, _, _, _]) rfl ?_
  refine dss_cons (ds_unpack [3, 4, 5] rfl (pgs_cons (pg_name (i := 3) sc_grant_if_ready.nd rfl (.inl rfl)) (pgs_cons (pg_name (i := 4) sc_grant_if_ready.nd rfl (.inl rfl)) (pgs_cons (pg_name (i := 5) sc_grant_if_ready.nd rfl (.inl rfl)) pgs_nil))) rfl (de_v 1 rfl rfl v17_home ⟨_, rfl, rfl, (dss_env (env' := [_, _, _, _, _, _, _, _, _, _, _, _, _]) rfl ?_)⟩))
  refine dss_cons (ds_unpack [6, 7, 8, 9, 10, 11] rfl (pgs_cons (pg_name (i := 6) sc_grant_if_ready.nd rfl (.inl rfl)) (pgs_cons (pg_name (i := 7) sc_grant_if_ready.nd rfl (.inl rfl)) (pgs_cons (pg_name (i := 8) sc_grant_if_ready.nd rfl (.inl rfl)) (pgs_cons (pg_name (i := 9) sc_grant_if_ready.nd rfl (.inl rfl)) (pgs_cons (pg_name (i := 10) sc_grant_if_ready.nd rfl (.inl rfl)) (pgs_cons (pg_name (i := 11) sc_grant_if_ready.nd rfl (.inl rfl)) pgs_nil)))))) rfl (de_v 5 rfl rfl v17_serving ⟨_, rfl, rfl, (dss_env (env' := [_, _, _, _, _, _, _, _, _, _, _, _, _]) rfl ?_)⟩))
  refine dss_cons (ds_if (dt_w (dw_or (dt_truth (de_v 11 rfl rfl v17_granted ⟨_, rfl, ?_⟩)))))
  unfold LK.grantIf at hR
  simp only at hR
  cases gr with
  | true => exact dss_cons (ds_ret (de_tup (da_cons (de_v 1 rfl rfl v17_home (da_cons (de_tup (da_nil ⟨Nat.le_of_ble_eq_true rfl, (da_nil ⟨Nat.le_of_ble_eq_true rfl, hR⟩)⟩)))))))
  | false =>
  refine dw_or (dt_truth (de_v 8 rfl rfl v17_awaited ⟨_, rfl, ?_⟩))
  show (if (!(wt.map natD).isEmpty) = true then _ else _)
  rw [emp_map]
  cases hw : wt.isEmpty with
  | false =>
    rw [hw] at hR
    exact dss_cons (ds_ret (de_tup (da_cons (de_v 1 rfl rfl v17_home (da_cons (de_tup (da_nil ⟨Nat.le_of_ble_eq_true rfl, (da_nil ⟨Nat.le_of_ble_eq_true rfl, hR⟩)⟩)))))))
  | true =>
  have hw2 : wt = [] := List.isEmpty_iff.mp hw
  subst hw2
  refine dw_or (dt_truth (de_v 9 rfl rfl v17_recalled ⟨_, rfl, ?_⟩))
  cases rcl with
  | true => exact dss_cons (ds_ret (de_tup (da_cons (de_v 1 rfl rfl v17_home (da_cons (de_tup (da_nil ⟨Nat.le_of_ble_eq_true rfl, (da_nil ⟨Nat.le_of_ble_eq_true rfl, hR⟩)⟩)))))))
  | false =>
  refine dw_one (dt_isN (de_v 10 rfl rfl v17_words ?_)) (.inr rfl)
  show (if isNon (optW w0) = true then _ else _)
  rw [isNon_optW]
  cases w0 with
  | none => exact dss_cons (ds_ret (de_tup (da_cons (de_v 1 rfl rfl v17_home (da_cons (de_tup (da_nil ⟨Nat.le_of_ble_eq_true rfl, (da_nil ⟨Nat.le_of_ble_eq_true rfl, hR⟩)⟩)))))))
  | some w1 =>
  simp only [List.isEmpty_nil, Bool.not_true, Bool.or_self, Bool.false_eq_true, if_false] at hR
  refine dss_nil ?_
  refine dss_cons (ds_set 12 sc_grant_if_ready.nd rfl (.inl rfl) (de_str (dss_env (env' := [_, _, _, _, _, _, _, _, _, _, _, _, _]) rfl ?_)))
  have fin : ∀ {ho2 : Option Nat} {sh2 : List Nat} {st : S3}, R (.tup [homeD ⟨ho2, sh2, some ⟨c, ex, [], false, some w1, true⟩⟩, msgsD [⟨c, l, .grant st w1⟩]]) →
      DSs (cxOf CX0 P w K mg base ["config", "home", "line", "owner", "sharers", "serving", "core", "exclusive", "awaited", "recalled", "words", "granted", "state"] "grant_if_ready" (defScope (topS 17)) f cdv A outer s H E).nox C none ((defBody (topS 17)).drop 5)
        [some (.cfg g), some (homeD ⟨ho, sh, some ⟨c, ex, [], false, some w1, false⟩⟩), some (.int l), some (optI ho2), some (.tup (sh2.map natD)), some (servD ⟨c, ex, [], false, some w1, false⟩), some (.int c), some (.bl ex), some (.tup []), some (.bl false), some (.blob w1), some (.bl false), some (.str (stS st))] ⟨fun _ => R .non, R, fun _ => False, fun _ => False⟩ := fun {ho2 sh2 st} hR => by
    refine dss_cons (ds_set 5 sc_grant_if_ready.nd rfl (.inl rfl) (de_tup (da_cons (de_v 6 rfl rfl v17_core (da_cons (de_v 7 rfl rfl v17_exclusive (da_cons (de_v 8 rfl rfl v17_awaited (da_cons (de_v 9 rfl rfl v17_recalled (da_cons (de_v 10 rfl rfl v17_words (da_cons (de_bl (da_nil ⟨Nat.le_of_ble_eq_true rfl, (dss_env (env' := [_, _, _, _, _, _, _, _, _, _, _, _, _]) rfl ?_)⟩)))))))))))))))
    exact dss_cons (ds_ret (de_tup (da_cons (de_tup (da_cons (de_v 3 rfl rfl v17_owner (da_cons (de_v 4 rfl rfl v17_sharers (da_cons (de_v 5 rfl rfl v17_serving (da_nil ⟨Nat.le_of_ble_eq_true rfl, (da_cons (de_tup (da_cons (de_tup (da_cons (de_str (da_cons (de_v 6 rfl rfl v17_core (da_cons (de_v 2 rfl rfl v17_line (da_cons (de_v 12 rfl rfl v17_state (da_cons (de_v 10 rfl rfl v17_words (da_nil ⟨Nat.le_of_ble_eq_true rfl, (da_nil ⟨Nat.le_of_ble_eq_true rfl, (da_nil ⟨Nat.le_of_ble_eq_true rfl, hR⟩)⟩)⟩)))))))))))))))⟩)))))))))))
  refine dss_cons (ds_if (dt_truth (de_v 7 rfl rfl v17_exclusive ⟨_, rfl, ?_⟩)))
  cases ex with
  | true =>
    refine dss_cons (ds_par3 12 3 4 rfl sc_grant_if_ready.nd rfl rfl rfl (by decide) (by decide) (by decide) rfl rfl rfl (da_cons (de_str (da_cons (de_v 6 rfl rfl v17_core (da_cons (de_tup (da_nil ⟨Nat.le_of_ble_eq_true rfl, (da_nil ⟨_, _, _, rfl, (dss_env (env' := [_, _, _, _, _, _, _, _, _, _, _, _, _]) rfl ?_)⟩)⟩))))))))
    refine dss_nil ?_
    exact fin (ho2 := some c) (sh2 := []) (st := .M) hR
  | false =>
    simp only [Bool.false_eq_true, if_false] at hR
    refine dss_cons (ds_if (dt_w (dw_and (dt_truth (de_fld T.cls T.na_exclusive_state sel_alone (de_v 0 rfl rfl v17_config ⟨_, rfl, ⟨_, rfl, ?_⟩⟩))))))
    cases hal : g.alone with
    | true =>
      refine dw_one (dt_not (dt_truth (de_v 4 rfl rfl v17_sharers ⟨_, rfl, ?_⟩))) (.inl rfl)
      show (if (!(!(sh.map natD).isEmpty)) = true then _ else _)
      rw [emp_map, Bool.not_not]
      rw [hal] at hR
      cases he : sh.isEmpty with
      | true =>
        have he2 : sh = [] := List.isEmpty_iff.mp he
        subst he2
        refine dss_cons (ds_par 12 3 rfl sc_grant_if_ready.nd rfl rfl (by decide) rfl rfl (da_cons (de_str (da_cons (de_v 6 rfl rfl v17_core (da_nil ⟨_, _, rfl, (dss_env (env' := [_, _, _, _, _, _, _, _, _, _, _, _, _]) rfl ?_)⟩))))))
        refine dss_nil (dss_nil ?_)
        exact fin (ho2 := some c) (sh2 := []) (st := .E) hR
      | false =>
      rw [he] at hR
      simp only [Bool.and_false, Bool.false_eq_true, if_false] at hR
      refine dss_cons (ds_if (dt_notIn (de_v 6 rfl rfl v17_core (de_v 4 rfl rfl v17_sharers ⟨_, in_nats c sh, ?_⟩))))
      cases hc : sh.contains c with
      | true =>
        rw [hc] at hR
        refine dss_nil (dss_nil (dss_nil ?_))
        exact fin (ho2 := ho) (sh2 := sh) (st := .S) hR
      | false =>
        rw [hc] at hR
        refine dss_cons (ds_set 4 sc_grant_if_ready.nd rfl (.inl rfl) (de_cat (de_v 4 rfl rfl v17_sharers (de_tup (da_cons (de_v 6 rfl rfl v17_core (da_nil ⟨Nat.le_of_ble_eq_true rfl, ⟨_, catD_tup (by simp only [List.length_map, List.length_cons, List.length_nil]; omega), (dss_env (env' := [_, _, _, _, _, _, _, _, _, _, _, _, _]) rfl ?_)⟩⟩)))))))
        refine dss_nil (dss_nil (dss_nil ?_))
        have e2 : sh.map natD ++ [.int c] = (sh ++ [c]).map natD := by rw [List.map_append]; rfl
        rw [e2]
        exact fin (ho2 := ho) (sh2 := sh ++ [c]) (st := .S) hR
    | false =>
      rw [hal] at hR
      simp only [Bool.false_and, Bool.false_eq_true, if_false] at hR
      refine dss_cons (ds_if (dt_notIn (de_v 6 rfl rfl v17_core (de_v 4 rfl rfl v17_sharers ⟨_, in_nats c sh, ?_⟩))))
      cases hc : sh.contains c with
      | true =>
        rw [hc] at hR
        refine dss_nil (dss_nil (dss_nil ?_))
        exact fin (ho2 := ho) (sh2 := sh) (st := .S) hR
      | false =>
        rw [hc] at hR
        refine dss_cons (ds_set 4 sc_grant_if_ready.nd rfl (.inl rfl) (de_cat (de_v 4 rfl rfl v17_sharers (de_tup (da_cons (de_v 6 rfl rfl v17_core (da_nil ⟨Nat.le_of_ble_eq_true rfl, ⟨_, catD_tup (by simp only [List.length_map, List.length_cons, List.length_nil]; omega), (dss_env (env' := [_, _, _, _, _, _, _, _, _, _, _, _, _]) rfl ?_)⟩⟩)))))))
        refine dss_nil (dss_nil (dss_nil ?_))
        have e2 : sh.map natD ++ [.int c] = (sh ++ [c]).map natD := by rw [List.map_append]; rfl
        rw [e2]
        exact fin (ho2 := ho) (sh2 := sh ++ [c]) (st := .S) hR
end
end WK
set_option maxRecDepth 100000
set_option maxHeartbeats 4000000
namespace WK
open PySem PySem.Spec PyProof.Rows L2
open LK (S3 MK Msg Cfg Cache Serv Home Sys)
section
variable {P : Program} {w : World} {K : PySem.W.Frag} {mg : Str → Option Value} {base : Heap} {C : Addr}
/-! ### home_receives -/
theorem v18_config : VarOk (defScope (topS 18)) "config" := ⟨.inl rfl, by decide, by decide⟩
theorem v18_home : VarOk (defScope (topS 18)) "home" := ⟨.inl rfl, by decide, by decide⟩
theorem v18_words : VarOk (defScope (topS 18)) "words" := ⟨.inl rfl, by decide, by decide⟩
theorem v18_message : VarOk (defScope (topS 18)) "message" := ⟨.inl rfl, by decide, by decide⟩
theorem v18_owner : VarOk (defScope (topS 18)) "owner" := ⟨.inl rfl, by decide, by decide⟩
theorem v18_sharers : VarOk (defScope (topS 18)) "sharers" := ⟨.inl rfl, by decide, by decide⟩
theorem v18_kind : VarOk (defScope (topS 18)) "kind" := ⟨.inl rfl, by decide, by decide⟩
theorem v18_core : VarOk (defScope (topS 18)) "core" := ⟨.inl rfl, by decide, by decide⟩
theorem v18_line : VarOk (defScope (topS 18)) "line" := ⟨.inl rfl, by decide, by decide⟩
theorem v18_messages : VarOk (defScope (topS 18)) "messages" := ⟨.inl rfl, by decide, by decide⟩
theorem v18_grants : VarOk (defScope (topS 18)) "grants" := ⟨.inl rfl, by decide, by decide⟩
theorem sc_home_receives : FnScope ["config", "home", "words", "message", "owner", "sharers", "serving", "kind", "core", "line", "messages", "grants"] ["config", "home", "words", "message"] (defScope (topS 18)) := ⟨rfl, rfl, rfl, by decide +kernel, rfl, by decide +kernel, by decide +kernel⟩
theorem grantIf_len (g : Cfg) (ho : Option Nat) (sh : List Nat) (s : Serv) (l : Nat) : (LK.grantIf g ho sh s l).2.length ≤ 1 := by
  unfold LK.grantIf
  split
  · simp
  · split
    · simp
    · split
      · simp
      · split <;> simp
theorem begunL_len (h : Home) (w k l : Nat) (e : Bool) (hz : h.sh.length ≤ 1000) : (begunL h w k l e).1.sh.length ≤ 1000 ∧ (begunL h w k l e).2.length ≤ 1000 := by
  unfold begunL
  split
  · exact ⟨hz, by simp⟩
  · refine ⟨hz, ?_⟩
    cases e
    · simp
    · simp only [if_true, List.length_map]
      exact Nat.le_trans (List.length_filter_le _ _) hz
structure SmallH (h : Home) : Prop where
  s : h.sh.length ≤ 1000
  w : ∀ s, h.sv = some s → s.wait.length ≤ 1000
def sdHomeR : Sd := fun ds R => ∃ (g : Cfg) (h : Home) (w : Nat) (m : Msg) (r : Home × Nat × List Msg), ds = [.cfg g, homeD h, .blob w, msgD m] ∧ SmallH h ∧ LK.homeRecv g h w m = some r ∧ R (.tup [homeD r.1, .blob r.2.1, msgsD r.2.2])
theorem ok_home_receives {f : Addr} {fd : FuncData} (D1 : Dfn K mg "home_receives" (topS 18) ["config", "home", "words", "message"] f fd) (h_invalidated : Has P w K mg base 1 "invalidated" ["home", "sharer"] (SpP K C sdInvd)) (h_returned : Has P w K mg base 1 "returned" ["home", "message"] (SpP K C sdRet)) (h_begun : Has P w K mg base 1 "begun" ["home", "words", "message"] (SpP K C sdBegun)) (h_grant_if_ready : Has P w K mg base 1 "grant_if_ready" ["config", "home", "line"] (SpP K C sdGrant)) : Has P w K mg base 2 "home_receives" ["config", "home", "words", "message"] (SpP K C sdHomeR) := by
  refine has_of D1 (fn_pure D1.F sc_home_receives (fun ds R ⟨_, _, _, _, _, e, _⟩ => by rw [e]; rfl) fun cdv A outer s H E ds R hr ⟨g, h, w0, m, rr, eq, hz, ha, hR⟩ => ?_)
  subst eq
  obtain ⟨ho, hsh, hsv⟩ := h
  obtain ⟨mc, ml, mk⟩ := m
  obtain ⟨hz1, hz2⟩ := hz
  have hz1 : hsh.length ≤ 1000 := hz1
  refine dss_env (env' := [_, _, _, _, _, _, _, _, _, _, _, _]) rfl ?_
  refine dss_cons (ds_unpack [4, 5, 6] rfl (pgs_cons (pg_name (i := 4) sc_home_receives.nd rfl (.inl rfl)) (pgs_cons (pg_name (i := 5) sc_home_receives.nd rfl (.inl rfl)) (pgs_cons (pg_name (i := 6) sc_home_receives.nd rfl (.inl rfl)) pgs_nil))) rfl (de_v 1 rfl rfl v18_home ⟨_, rfl, rfl, (dss_env (env' := [_, _, _, _, _, _, _, _, _, _, _, _]) rfl ?_)⟩))
  refine dss_cons (ds_par3 7 8 9 rfl sc_home_receives.nd rfl rfl rfl (by decide) (by decide) (by decide) rfl rfl rfl (da_cons (de_ix (de_v 3 rfl rfl v18_message (de_int ⟨_, _, rfl, rfl, (da_cons (de_ix (de_v 3 rfl rfl v18_message (de_int ⟨_, _, rfl, rfl, (da_cons (de_ix (de_v 3 rfl rfl v18_message (de_int ⟨_, _, rfl, rfl, (da_nil ⟨_, _, _, rfl, (dss_env (env' := [_, _, _, _, _, _, _, _, _, _, _, _]) rfl ?_)⟩)⟩))))⟩))))⟩)))))
  have fin : ∀ {ho2 : Option Nat} {sh2 : List Nat} {s2 : Serv} {w2 : Nat} {ms : List Msg} {d3 d4 d5 d6 d7 : D}, sh2.length ≤ 1000 → ms.length ≤ 1000 → R (.tup [homeD (LK.grantIf g ho2 sh2 s2 ml).1, .blob w2, msgsD (ms ++ (LK.grantIf g ho2 sh2 s2 ml).2)]) →
      DSs (cxOf CX0 P w K mg base ["config", "home", "words", "message", "owner", "sharers", "serving", "kind", "core", "line", "messages", "grants"] "home_receives" (defScope (topS 18)) f cdv A outer s H E).nox C none ((defBody (topS 18)).drop 6)
        [some (.cfg g), some (homeD ⟨ho2, sh2, some s2⟩), some (.blob w2), some d3, some d4, some d5, some d6, some d7, some (.int mc), some (.int ml), some (msgsD ms), none] ⟨fun _ => R .non, R, fun _ => False, fun _ => False⟩ := fun {ho2 sh2 s2 w2 ms d3 d4 d5 d6 d7} h1 h2 hR => by
    refine dss_cons (ds_unpack [1, 11] rfl (pgs_cons (pg_name (i := 1) sc_home_receives.nd rfl (.inl rfl)) (pgs_cons (pg_name (i := 11) sc_home_receives.nd rfl (.inl rfl)) pgs_nil)) rfl (de_callH h_grant_if_ready (hr.mono (by decide)) rfl (da_cons (de_v 0 rfl rfl v18_config (da_cons (de_v 1 rfl rfl v18_home (da_cons (de_v 9 rfl rfl v18_line (da_nil ⟨g, ho2, sh2, s2, ml, rfl, h1, ⟨_, rfl, rfl, (dss_env (env' := [_, _, _, _, _, _, _, _, _, _, _, _]) rfl ?_)⟩⟩)))))))))
    refine dss_cons (ds_ret (de_tup (da_cons (de_v 1 rfl rfl v18_home (da_cons (de_v 2 rfl rfl v18_words (da_cons (de_cat (de_v 10 rfl rfl v18_messages (de_v 11 rfl rfl v18_grants ⟨_, catD_tup (by rw [List.length_map, List.length_map]; have := grantIf_len g ho2 sh2 s2 ml; omega), (da_nil ⟨Nat.le_of_ble_eq_true rfl, ?_⟩)⟩))))))))))
    rw [← List.map_append]
    exact hR
  have begfin : ∀ {e : Bool} {s3 : Serv} {d3 d4 d5 d6 d7 : D}, (begunL ⟨ho, hsh, hsv⟩ w0 mc ml e).1.sv = some s3 → R (.tup [homeD (LK.grantIf g (begunL ⟨ho, hsh, hsv⟩ w0 mc ml e).1.owner (begunL ⟨ho, hsh, hsv⟩ w0 mc ml e).1.sh s3 ml).1, .blob w0, msgsD ((begunL ⟨ho, hsh, hsv⟩ w0 mc ml e).2 ++ (LK.grantIf g (begunL ⟨ho, hsh, hsv⟩ w0 mc ml e).1.owner (begunL ⟨ho, hsh, hsv⟩ w0 mc ml e).1.sh s3 ml).2)]) →
      DSs (cxOf CX0 P w K mg base ["config", "home", "words", "message", "owner", "sharers", "serving", "kind", "core", "line", "messages", "grants"] "home_receives" (defScope (topS 18)) f cdv A outer s H E).nox C none ((defBody (topS 18)).drop 6)
        [some (.cfg g), some (homeD (begunL ⟨ho, hsh, hsv⟩ w0 mc ml e).1), some (.blob w0), some d3, some d4, some d5, some d6, some d7, some (.int mc), some (.int ml), some (msgsD (begunL ⟨ho, hsh, hsv⟩ w0 mc ml e).2), none] ⟨fun _ => R .non, R, fun _ => False, fun _ => False⟩ := fun {e s3 d3 d4 d5 d6 d7} h0 hR => by
    have hl := begunL_len ⟨ho, hsh, hsv⟩ w0 mc ml e hz1
    revert h0 hR hl
    generalize begunL ⟨ho, hsh, hsv⟩ w0 mc ml e = bl
    obtain ⟨⟨b1, b2, b3⟩, ms⟩ := bl
    intro h0 hR hl
    have h0 : b3 = some s3 := h0
    subst h0
    exact fin hl.1 hl.2 hR
  unfold LK.homeRecv at ha
  have other : mk ≠ .received → (∀ w d, mk ≠ .giveUp w d) → DSs (cxOf CX0 P w K mg base ["config", "home", "words", "message", "owner", "sharers", "serving", "kind", "core", "line", "messages", "grants"] "home_receives" (defScope (topS 18)) f cdv A outer s H E).nox C none ((defBody (topS 18)).drop 4)
        [some (.cfg g), some (homeD ⟨ho, hsh, hsv⟩), some (.blob w0), some (msgD ⟨mc, ml, mk⟩), some (optI ho), some (.tup (hsh.map natD)), some (svD hsv), some (.str (kindS mk)), some (.int mc), some (.int ml), none, none] ⟨fun _ => R .non, R, fun _ => False, fun _ => False⟩ := fun n1 n2 => by
    refine dss_cons (ds_set 10 sc_home_receives.nd rfl (.inl rfl) (de_tup (da_nil ⟨Nat.le_of_ble_eq_true rfl, (dss_env (env' := [_, _, _, _, _, _, _, _, _, _, _, _]) rfl ?_)⟩)))
    refine dss_cons (ds_if (dt_eq (de_v 7 rfl rfl v18_kind (de_str ⟨_, rfl, ?_⟩))))
    cases mk with
    | invald =>
      simp only at ha
      cases hs : hsv with
      | none => rw [hs] at ha; cases ha
      | some sv =>
        rw [hs] at ha
        cases ha
        refine dss_cons (ds_set 1 sc_home_receives.nd rfl (.inl rfl) (de_callH h_invalidated (hr.mono (by decide)) rfl (da_cons (de_v 1 rfl rfl v18_home (da_cons (de_v 8 rfl rfl v18_core (da_nil ⟨⟨ho, hsh, some sv⟩, mc, sv, rfl, rfl, hz1, hz2 sv hs, ?_⟩)))))))
        refine dss_nil ?_
        refine dss_env (env' := [_, _, _, _, _, _, _, _, _, _, _, _]) rfl ?_
        exact fin (ms := []) (Nat.le_trans (List.length_filter_le _ _) hz1) (by decide) hR
    | returned mw d =>
      simp only at ha
      refine dss_cons (ds_if (dt_eq (de_v 7 rfl rfl v18_kind (de_str ⟨_, rfl, ?_⟩))))
      cases hs : hsv with
      | none => rw [hs] at ha; cases ha
      | some sv =>
        rw [hs] at ha
        cases mw with
        | none => cases ha
        | some mw =>
          cases ha
          refine dss_cons (ds_set 1 sc_home_receives.nd rfl (.inl rfl) (de_callH h_returned (hr.mono (by decide)) rfl (da_cons (de_v 1 rfl rfl v18_home (da_cons (de_v 3 rfl rfl v18_message (da_nil ⟨⟨ho, hsh, some sv⟩, mc, ml, some mw, d, sv, rfl, rfl, ?_⟩)))))))
          refine dss_env (env' := [_, _, _, _, _, _, _, _, _, _, _, _]) rfl ?_
          refine dss_cons (ds_set 2 sc_home_receives.nd rfl (.inl rfl) (de_ifExp (dt_truth (de_ix (de_v 3 rfl rfl v18_message (de_int ⟨_, _, rfl, rfl, ⟨_, rfl, ?_⟩⟩))))))
          have h3 : (if sv.ex = true then [] else [mc] : List Nat).length ≤ 1000 := by split <;> simp
          cases d with
          | true =>
            refine (de_ix (de_v 3 rfl rfl v18_message (de_int ⟨_, _, rfl, rfl, ?_⟩)))
            refine dss_nil (dss_nil ?_)
            refine dss_env (env' := [_, _, _, _, _, _, _, _, _, _, _, _]) rfl ?_
            exact fin (ms := []) h3 (by decide) hR
          | false =>
            refine (de_v 2 rfl rfl v18_words ?_)
            refine dss_nil (dss_nil ?_)
            refine dss_env (env' := [_, _, _, _, _, _, _, _, _, _, _, _]) rfl ?_
            exact fin (ms := []) h3 (by decide) hR
    | getS =>
      refine dss_cons (ds_if (dt_eq (de_v 7 rfl rfl v18_kind (de_str ⟨_, rfl, ?_⟩))))
      obtain ⟨s3, e1, e2⟩ := homeReq_eq g ⟨ho, hsh, hsv⟩ w0 mc ml false
      simp only at ha
      rw [e2] at ha
      cases ha
      refine dss_cons (ds_unpack [1, 10] rfl (pgs_cons (pg_name (i := 1) sc_home_receives.nd rfl (.inl rfl)) (pgs_cons (pg_name (i := 10) sc_home_receives.nd rfl (.inl rfl)) pgs_nil)) rfl (de_callH h_begun (hr.mono (by decide)) rfl (da_cons (de_v 1 rfl rfl v18_home (da_cons (de_v 2 rfl rfl v18_words (da_cons (de_v 3 rfl rfl v18_message (da_nil ⟨⟨ho, hsh, hsv⟩, w0, mc, ml, false, rfl, hz1, ⟨_, rfl, rfl, ?_⟩⟩)))))))))
      refine dss_nil (dss_nil ?_)
      refine dss_env (env' := [_, _, _, _, _, _, _, _, _, _, _, _]) rfl ?_
      exact begfin e1 hR
    | getM =>
      refine dss_cons (ds_if (dt_eq (de_v 7 rfl rfl v18_kind (de_str ⟨_, rfl, ?_⟩))))
      obtain ⟨s3, e1, e2⟩ := homeReq_eq g ⟨ho, hsh, hsv⟩ w0 mc ml true
      simp only at ha
      rw [e2] at ha
      cases ha
      refine dss_cons (ds_unpack [1, 10] rfl (pgs_cons (pg_name (i := 1) sc_home_receives.nd rfl (.inl rfl)) (pgs_cons (pg_name (i := 10) sc_home_receives.nd rfl (.inl rfl)) pgs_nil)) rfl (de_callH h_begun (hr.mono (by decide)) rfl (da_cons (de_v 1 rfl rfl v18_home (da_cons (de_v 2 rfl rfl v18_words (da_cons (de_v 3 rfl rfl v18_message (da_nil ⟨⟨ho, hsh, hsv⟩, w0, mc, ml, true, rfl, hz1, ⟨_, rfl, rfl, ?_⟩⟩)))))))))
      refine dss_nil (dss_nil ?_)
      refine dss_env (env' := [_, _, _, _, _, _, _, _, _, _, _, _]) rfl ?_
      exact begfin e1 hR
    | received => exact absurd rfl n1
    | giveUp w d => exact absurd rfl (n2 w d)
    | _ => cases ha
  cases hk : mk with
  | giveUp mw d =>
    subst hk
    clear other
    simp only at ha
    cases ha
    refine dss_cons (ds_if (dt_eq (de_v 7 rfl rfl v18_kind (de_str ⟨_, rfl, ?_⟩))))
    refine dss_cons (ds_if (dt_eq (de_v 4 rfl rfl v18_owner (de_v 8 rfl rfl v18_core ⟨match ho with | none => false | some o => decide (o = mc), ?_, ?_⟩))))
    · cases ho with
      | none => rfl
      | some o1 => show some (decide ((o1 : Int) = (mc : Int))) = some (decide (o1 = mc)); exact congrArg some (decide_eq_decide.mpr (by omega))
    cases ho with
    | none =>
      refine dss_nil ?_
      exact dss_cons (ds_ret (de_tup (da_cons (de_tup (da_cons (de_v 4 rfl rfl v18_owner (da_cons (de_v 5 rfl rfl v18_sharers (da_cons (de_non (da_nil ⟨Nat.le_of_ble_eq_true rfl, (da_cons (de_v 2 rfl rfl v18_words (da_cons (de_tup (da_cons (de_tup (da_cons (de_str (da_cons (de_v 8 rfl rfl v18_core (da_cons (de_v 9 rfl rfl v18_line (da_nil ⟨Nat.le_of_ble_eq_true rfl, (da_nil ⟨Nat.le_of_ble_eq_true rfl, (da_nil ⟨Nat.le_of_ble_eq_true rfl, hR⟩)⟩)⟩)))))))))))))⟩)))))))))))
    | some o1 =>
      show (if decide (o1 = mc) = true then _ else _)
      simp only [Option.some.injEq] at hR
      by_cases ho1 : o1 = mc
      · rw [decide_eq_true ho1, if_pos rfl]
        rw [if_pos ho1, if_pos ho1] at hR
        refine dss_cons (ds_set 4 sc_home_receives.nd rfl (.inl rfl) (de_non (dss_env (env' := [_, _, _, _, _, _, _, _, _, _, _, _]) rfl ?_)))
        refine dss_cons (ds_set 2 sc_home_receives.nd rfl (.inl rfl) (de_ifExp (dt_truth (de_ix (de_v 3 rfl rfl v18_message (de_int ⟨_, _, rfl, rfl, ⟨_, rfl, ?_⟩⟩))))))
        cases d with
        | true =>
          refine (de_ix (de_v 3 rfl rfl v18_message (de_int ⟨_, _, rfl, rfl, ?_⟩)))
          refine dss_nil ?_
          exact dss_cons (ds_ret (de_tup (da_cons (de_tup (da_cons (de_v 4 rfl rfl v18_owner (da_cons (de_v 5 rfl rfl v18_sharers (da_cons (de_non (da_nil ⟨Nat.le_of_ble_eq_true rfl, (da_cons (de_v 2 rfl rfl v18_words (da_cons (de_tup (da_cons (de_tup (da_cons (de_str (da_cons (de_v 8 rfl rfl v18_core (da_cons (de_v 9 rfl rfl v18_line (da_nil ⟨Nat.le_of_ble_eq_true rfl, (da_nil ⟨Nat.le_of_ble_eq_true rfl, (da_nil ⟨Nat.le_of_ble_eq_true rfl, hR⟩)⟩)⟩)))))))))))))⟩)))))))))))
        | false =>
          refine (de_v 2 rfl rfl v18_words ?_)
          refine dss_nil ?_
          exact dss_cons (ds_ret (de_tup (da_cons (de_tup (da_cons (de_v 4 rfl rfl v18_owner (da_cons (de_v 5 rfl rfl v18_sharers (da_cons (de_non (da_nil ⟨Nat.le_of_ble_eq_true rfl, (da_cons (de_v 2 rfl rfl v18_words (da_cons (de_tup (da_cons (de_tup (da_cons (de_str (da_cons (de_v 8 rfl rfl v18_core (da_cons (de_v 9 rfl rfl v18_line (da_nil ⟨Nat.le_of_ble_eq_true rfl, (da_nil ⟨Nat.le_of_ble_eq_true rfl, (da_nil ⟨Nat.le_of_ble_eq_true rfl, hR⟩)⟩)⟩)))))))))))))⟩)))))))))))
      · rw [decide_eq_false ho1, if_neg (by decide)]
        rw [if_neg ho1, if_neg ho1] at hR
        refine dss_nil ?_
        exact dss_cons (ds_ret (de_tup (da_cons (de_tup (da_cons (de_v 4 rfl rfl v18_owner (da_cons (de_v 5 rfl rfl v18_sharers (da_cons (de_non (da_nil ⟨Nat.le_of_ble_eq_true rfl, (da_cons (de_v 2 rfl rfl v18_words (da_cons (de_tup (da_cons (de_tup (da_cons (de_str (da_cons (de_v 8 rfl rfl v18_core (da_cons (de_v 9 rfl rfl v18_line (da_nil ⟨Nat.le_of_ble_eq_true rfl, (da_nil ⟨Nat.le_of_ble_eq_true rfl, (da_nil ⟨Nat.le_of_ble_eq_true rfl, hR⟩)⟩)⟩)))))))))))))⟩)))))))))))
  | received =>
    subst hk
    clear other
    cases ha
    refine dss_cons (ds_if (dt_eq (de_v 7 rfl rfl v18_kind (de_str ⟨_, rfl, ?_⟩))))
    refine dss_nil ?_
    refine dss_cons (ds_if (dt_eq (de_v 7 rfl rfl v18_kind (de_str ⟨_, rfl, ?_⟩))))
    exact dss_cons (ds_ret (de_tup (da_cons (de_tup (da_cons (de_v 4 rfl rfl v18_owner (da_cons (de_v 5 rfl rfl v18_sharers (da_cons (de_non (da_nil ⟨Nat.le_of_ble_eq_true rfl, (da_cons (de_v 2 rfl rfl v18_words (da_cons (de_tup (da_nil ⟨Nat.le_of_ble_eq_true rfl, (da_nil ⟨Nat.le_of_ble_eq_true rfl, hR⟩)⟩)))))⟩)))))))))))
  | getS =>
    subst hk
    refine dss_cons (ds_if (dt_eq (de_v 7 rfl rfl v18_kind (de_str ⟨_, rfl, ?_⟩))))
    refine dss_nil ?_
    refine dss_cons (ds_if (dt_eq (de_v 7 rfl rfl v18_kind (de_str ⟨_, rfl, ?_⟩))))
    refine dss_nil ?_
    exact other (fun q => by cases q) (fun _ _ q => by cases q)
  | getM =>
    subst hk
    refine dss_cons (ds_if (dt_eq (de_v 7 rfl rfl v18_kind (de_str ⟨_, rfl, ?_⟩))))
    refine dss_nil ?_
    refine dss_cons (ds_if (dt_eq (de_v 7 rfl rfl v18_kind (de_str ⟨_, rfl, ?_⟩))))
    refine dss_nil ?_
    exact other (fun q => by cases q) (fun _ _ q => by cases q)
  | returned mw d =>
    subst hk
    refine dss_cons (ds_if (dt_eq (de_v 7 rfl rfl v18_kind (de_str ⟨_, rfl, ?_⟩))))
    refine dss_nil ?_
    refine dss_cons (ds_if (dt_eq (de_v 7 rfl rfl v18_kind (de_str ⟨_, rfl, ?_⟩))))
    refine dss_nil ?_
    exact other (fun q => by cases q) (fun _ _ q => by cases q)
  | invald =>
    subst hk
    refine dss_cons (ds_if (dt_eq (de_v 7 rfl rfl v18_kind (de_str ⟨_, rfl, ?_⟩))))
    refine dss_nil ?_
    refine dss_cons (ds_if (dt_eq (de_v 7 rfl rfl v18_kind (de_str ⟨_, rfl, ?_⟩))))
    refine dss_nil ?_
    exact other (fun q => by cases q) (fun _ _ q => by cases q)
  | inval =>
    subst hk
    refine dss_cons (ds_if (dt_eq (de_v 7 rfl rfl v18_kind (de_str ⟨_, rfl, ?_⟩))))
    refine dss_nil ?_
    refine dss_cons (ds_if (dt_eq (de_v 7 rfl rfl v18_kind (de_str ⟨_, rfl, ?_⟩))))
    refine dss_nil ?_
    exact other (fun q => by cases q) (fun _ _ q => by cases q)
  | confirm =>
    subst hk
    refine dss_cons (ds_if (dt_eq (de_v 7 rfl rfl v18_kind (de_str ⟨_, rfl, ?_⟩))))
    refine dss_nil ?_
    refine dss_cons (ds_if (dt_eq (de_v 7 rfl rfl v18_kind (de_str ⟨_, rfl, ?_⟩))))
    refine dss_nil ?_
    exact other (fun q => by cases q) (fun _ _ q => by cases q)
  | recall kp =>
    subst hk
    refine dss_cons (ds_if (dt_eq (de_v 7 rfl rfl v18_kind (de_str ⟨_, rfl, ?_⟩))))
    refine dss_nil ?_
    refine dss_cons (ds_if (dt_eq (de_v 7 rfl rfl v18_kind (de_str ⟨_, rfl, ?_⟩))))
    refine dss_nil ?_
    exact other (fun q => by cases q) (fun _ _ q => by cases q)
  | grant st w1 =>
    subst hk
    refine dss_cons (ds_if (dt_eq (de_v 7 rfl rfl v18_kind (de_str ⟨_, rfl, ?_⟩))))
    refine dss_nil ?_
    refine dss_cons (ds_if (dt_eq (de_v 7 rfl rfl v18_kind (de_str ⟨_, rfl, ?_⟩))))
    refine dss_nil ?_
    exact other (fun q => by cases q) (fun _ _ q => by cases q)
end
end WK
set_option maxRecDepth 100000
set_option maxHeartbeats 4000000
namespace WK
open PySem PySem.Spec PyProof.Rows L2
open LK (S3 MK Msg Cfg Cache Serv Home Sys)
section
variable {P : Program} {w : World} {K : PySem.W.Frag} {mg : Str → Option Value} {base : Heap} {C : Addr}
theorem slt_hi (xs : List D) (i : Nat) : sliceD (.tup xs) none (some (i : Int)) = some (.tup (xs.take i)) := by
  unfold sliceD cutD
  simp only [HT.sIx_none, HT.sIx_nat, List.drop_zero, Nat.sub_zero]
  rw [← List.take_eq_take_min]
theorem slt_lo (xs : List D) (i : Nat) : sliceD (.tup xs) (some ((i : Int) + 1)) none = some (.tup (xs.drop (i + 1))) := by
  have e : (i : Int) + 1 = ((i + 1 : Nat) : Int) := by omega
  unfold sliceD cutD
  rw [e]
  simp only [HT.sIx_none, HT.sIx_nat]
  by_cases h : i + 1 ≤ xs.length
  · rw [Nat.min_eq_left h, ← List.length_drop, List.take_length]
  · rw [Nat.min_eq_right (by omega), Nat.sub_self, List.take_zero, List.drop_eq_nil_of_le (by omega)]
theorem slb_hi (n a : Nat) : sliceD (.blob n) none (some (a : Int)) = some (.blob (min a n)) := by
  unfold sliceD
  simp only [HT.sIx_none, HT.sIx_nat, Nat.sub_zero]
theorem slb_lo (n a b : Nat) : sliceD (.blob n) (some ((a : Int) + (b : Int))) none = some (.blob (n - min (a + b) n)) := by
  have e : (a : Int) + (b : Int) = ((a + b : Nat) : Int) := by omega
  unfold sliceD
  rw [e]
  simp only [HT.sIx_none, HT.sIx_nat]
theorem slb_2 (n a b : Nat) : sliceD (.blob n) (some (a : Int)) (some ((a : Int) + (b : Int))) = some (.blob (min (a + b) n - min a n)) := by
  have e : (a : Int) + (b : Int) = ((a + b : Nat) : Int) := by omega
  unfold sliceD
  rw [e]
  simp only [HT.sIx_nat]
/-! ### replaced -/
theorem v21_parts : VarOk (defScope (topS 21)) "parts" := ⟨.inl rfl, by decide, by decide⟩
theorem v21_index : VarOk (defScope (topS 21)) "index" := ⟨.inl rfl, by decide, by decide⟩
theorem v21_part : VarOk (defScope (topS 21)) "part" := ⟨.inl rfl, by decide, by decide⟩
theorem sc_replaced : FnScope ["parts", "index", "part"] ["parts", "index", "part"] (defScope (topS 21)) := ⟨rfl, rfl, rfl, by decide +kernel, rfl, by decide +kernel, by decide +kernel⟩
def sdRepl : Sd := fun ds R => ∃ (xs : List D) (i : Nat) (d : D), ds = [.tup xs, .int i, d] ∧ xs.length ≤ 1000 ∧ i < xs.length ∧ R (.tup (xs.set i d))
theorem ok_replaced {f : Addr} {fd : FuncData} (D1 : Dfn K mg "replaced" (topS 21) ["parts", "index", "part"] f fd) : Has P w K mg base 1 "replaced" ["parts", "index", "part"] (SpP K C sdRepl) := by
  refine has_of D1 (fn_pure D1.F sc_replaced (fun ds R ⟨_, _, _, e, _⟩ => by rw [e]; rfl) fun cdv A outer s H E ds R hr ⟨xs, i, d, eq, hz, hi, hR⟩ => ?_)
  subst eq
  refine dss_env (env' := [_, _, _]) rfl ?_
  refine dss_cons (ds_ret (de_cat (de_cat (de_slHi (de_v 0 rfl rfl v21_parts (de_v 1 rfl rfl v21_index ⟨_, _, rfl, slt_hi _ _, (de_tup (da_cons (de_v 2 rfl rfl v21_part (da_nil ⟨Nat.le_of_ble_eq_true rfl, ⟨_, catD_tup ?_, (de_slLo (de_v 0 rfl rfl v21_parts (de_add (de_v 1 rfl rfl v21_index (de_int ⟨_, _, rfl, rfl, ⟨_, _, rfl, slt_lo _ _, ⟨_, catD_tup ?_, ?_⟩⟩⟩)))))⟩⟩))))⟩))))))
  · rw [List.length_take, List.length_singleton]; omega
  · rw [List.length_append, List.length_take, List.length_singleton, List.length_drop]; omega
  · rw [List.set_eq_take_append_cons_drop, if_pos hi] at hR
    rw [List.append_assoc]
    exact hR
/-! ### start_system -/
theorem v22_program : VarOk (defScope (topS 22)) "program" := ⟨.inl rfl, by decide, by decide⟩
theorem v22_config : VarOk (defScope (topS 22)) "config" := ⟨.inl rfl, by decide, by decide⟩
theorem v22_memory : VarOk (defScope (topS 22)) "memory" := ⟨.inl rfl, by decide, by decide⟩
theorem v22_caches : VarOk (defScope (topS 22)) "caches" := ⟨.inl rfl, by decide, by decide⟩
theorem v22_many : VarOk (defScope (topS 22)) "many" := ⟨.inl rfl, by decide, by decide⟩
theorem sc_start_system : FnScope ["program", "config", "memory", "many", "caches", "entry", "line"] ["program", "config"] (defScope (topS 22)) := ⟨rfl, rfl, rfl, by decide +kernel, rfl, by decide +kernel, by decide +kernel⟩
theorem solid_cacheD (c : Cache) : (cacheD c).solid = true := by
  show (D.solid (.tup _) && (D.solid (.tup _) && (D.solid (.tup _) && D.solids []))) = true
  have h1 : D.solids (c.lines.map (entT lineF)) = true := solids_of fun d hd => by obtain ⟨x, _, rfl⟩ := List.mem_map.mp hd; exact solid_entT solid_lineF x
  have h2 : D.solids (c.req.map (entT reqF)) = true := solids_of fun d hd => by obtain ⟨x, _, rfl⟩ := List.mem_map.mp hd; exact solid_entT solid_reqF x
  have h3 : D.solids (c.leav.map (entT leavF)) = true := solids_of fun d hd => by obtain ⟨x, _, rfl⟩ := List.mem_map.mp hd; exact solid_entT solid_leavF x
  unfold D.solid
  rw [h1, h2, h3]; rfl
def sdStart : Sd := fun ds R => ∃ (g : Cfg) (d0 : D) (es : List D) (mem : Nat), ds = [.tup [d0, .tup es, .blob mem], .cfg g] ∧ es.length ≤ 1000 ∧ mem ≤ 1000 ∧ 1 ≤ g.lw ∧ g.lw ≤ 1000 ∧ R (sysD (LK.start es.length mem g))
theorem ok_start_system {f : Addr} {fd : FuncData} (D1 : Dfn K mg "start_system" (topS 22) ["program", "config"] f fd) (T : TCfg K C mg) (G : TGlb K C mg) : Has P w K mg base 1 "start_system" ["program", "config"] (SpP K C sdStart) := by
  refine has_of D1 (fn_pure D1.F sc_start_system (fun ds R ⟨_, _, _, _, e, _⟩ => by rw [e]; rfl) fun cdv A outer s H E ds R hr ⟨g, d0, es, mem, eq, hz, hm, h1, h2, hR⟩ => ?_)
  subst eq
  refine dss_env (env' := [_, _, _, _, _, _, _]) rfl ?_
  refine dss_cons (ds_set 2 sc_start_system.nd rfl (.inl rfl) (de_ix (de_v 0 rfl rfl v22_program (de_int ⟨_, _, rfl, rfl, (dss_env (env' := [_, _, _, _, _, _, _]) rfl ?_)⟩))))
  refine dss_cons (ds_set 3 sc_start_system.nd rfl (.inl rfl) (de_fdiv (de_sub (de_add (de_len rfl T.no_len (de_v 2 rfl rfl v22_memory ⟨_, rfl, (de_fld T.cls T.na_line_words sel_lw (de_v 1 rfl rfl v22_config ⟨_, rfl, ⟨_, _, rfl, rfl, (de_int ⟨_, _, rfl, rfl, (de_fld T.cls T.na_line_words sel_lw (de_v 1 rfl rfl v22_config ⟨_, rfl, ⟨_, _, rfl, rfl, ⟨by omega, by omega⟩, ?_⟩⟩))⟩)⟩⟩))⟩))))))
  have e1 : ((mem : Int) + (g.lw : Int) - 1) / (g.lw : Int) = (((mem + g.lw - 1) / g.lw : Nat) : Int) := by
    rw [Int.natCast_ediv]
    congr 1
    omega
  rw [e1]
  have hmany : (mem + g.lw - 1) / g.lw ≤ 2000 := Nat.le_trans (Nat.div_le_self _ _) (by omega)
  refine dss_env (env' := [_, _, _, _, _, _, _]) rfl ?_
  refine dss_cons (ds_set 4 sc_start_system.nd rfl (.inl rfl) (de_tupleOf rfl T.no_tuple (dl_lc (i := 5) rfl sc_start_system.nd (blkOk_by (N := ["program", "config", "memory", "many", "caches", "entry", "line"]) (sc := defScope (topS 22)) (by decide +kernel)) rfl rfl (de_ix (de_v 0 rfl rfl v22_program (de_int ⟨_, _, rfl, rfl, ⟨_, fun _ => true, fun _ => cacheD ⟨[], [], []⟩, rfl, by omega, fun d hd s H C2 cl fp => dts_nil rfl, fun d hd _ s H C2 cl fp => ?_, fun d hd _ => solid_cacheD _, ?_⟩⟩))))))
  · exact de_glb rfl G.EMPTY_CACHE rfl
  · rw [List.filter_eq_self.mpr (fun _ _ => rfl)]
    refine dss_env (env' := [_, _, _, _, _, _, _]) rfl ?_
    refine dss_cons (ds_ret (de_tup (da_cons (de_v 4 rfl rfl v22_caches (da_cons (de_tupleOf rfl T.no_tuple (dl_lcR (i := 6) rfl sc_start_system.nd (blkOk_by (N := ["program", "config", "memory", "many", "caches", "entry", "line"]) (sc := defScope (topS 22)) (by decide +kernel)) rfl rfl rfl T.no_range (de_v 3 rfl rfl v22_many ⟨_, homeD ⟨none, [], none⟩, rfl, by omega, rfl, fun j s H C2 cl fp => ?_, ?_⟩))))))))
    · exact de_glb rfl G.START_HOME rfl
    · refine (da_cons (de_v 2 rfl rfl v22_memory (da_cons (de_tup (da_nil ⟨Nat.le_of_ble_eq_true rfl, (da_nil ⟨Nat.le_of_ble_eq_true rfl, ?_⟩)⟩)))))
      rw [List.map_const'] 
      unfold sysD LK.start at hR
      simp only [List.map_replicate] at hR
      exact hR
/-! ### deliverable -/
theorem v23_system : VarOk (defScope (topS 23)) "system" := ⟨.inl rfl, by decide, by decide⟩
theorem v23_homes : VarOk (defScope (topS 23)) "homes" := ⟨.inl rfl, by decide, by decide⟩
theorem v23_network : VarOk (defScope (topS 23)) "network" := ⟨.inl rfl, by decide, by decide⟩
theorem v23_index : VarOk (defScope (topS 23)) "index" := ⟨.inl rfl, by decide, by decide⟩
theorem v23_message : VarOk (defScope (topS 23)) "message" := ⟨.inl rfl, by decide, by decide⟩
theorem sc_deliverable : FnScope ["system", "homes", "network", "found", "index", "message"] ["system"] (defScope (topS 23)) := ⟨rfl, rfl, rfl, by decide +kernel, rfl, by decide +kernel, by decide +kernel⟩
theorem solid_optW (o : Option Nat) : (optW o).solid = true := by cases o <;> rfl
theorem solid_optI (o : Option Nat) : (optI o).solid = true := by cases o <;> rfl
theorem solids_nat (xs : List Nat) : D.solids (xs.map natD) = true := solids_of fun d hd => by obtain ⟨x, _, rfl⟩ := List.mem_map.mp hd; rfl
theorem solid_svD (o : Option Serv) : (svD o).solid = true := by
  cases o with
  | none => rfl
  | some s =>
    have h1 := solids_nat s.wait
    have h2 := solid_optW s.w
    unfold svD servD
    simp only [D.solid, D.solids, h1, h2, Bool.and_true]
theorem solid_homeD (h : Home) : (homeD h).solid = true := by
  have h1 := solids_nat h.sh
  have h2 := solid_optI h.owner
  have h3 := solid_svD h.sv
  unfold homeD
  simp only [D.solid, D.solids, h1, h2, h3, Bool.and_true]
theorem solid_msgD (m : Msg) : (msgD m).solid = true := by
  obtain ⟨c, l, k⟩ := m
  cases k <;> first | rfl | (unfold msgD argsD; simp only [D.solid, D.solids, solid_optW, Bool.and_true])
theorem solids_map {α : Type} {f : α → D} (h : ∀ x, (f x).solid = true) (xs : List α) : D.solids (xs.map f) = true := solids_of fun d hd => by obtain ⟨x, _, rfl⟩ := List.mem_map.mp hd; exact h x
theorem solid_sysD (s : Sys) : (sysD s).solid = true := by
  have h1 := solids_map solid_cacheD s.caches
  have h2 := solids_map solid_homeD s.homes
  have h3 := solids_map solid_msgD s.net
  unfold sysD msgsD
  simp only [D.solid, D.solids, h1, h2, h3, Bool.and_true]
theorem item_nat {xs : List D} {i : Nat} {d : D} (h : xs[i]? = some d) : itemD (.tup xs) (i : Int) = some d := by
  unfold itemD
  simp only
  rw [if_pos (by omega), Int.toNat_natCast]; exact h
theorem bs_env {X : Cx} {M : Option Tp} {i : Nat} {t : TS} {env env' : Env} {ds : List D} {E : Env → List D → Prop} (h : env = env') (q : BS X C M i t env' ds E) : BS X C M i t env ds E := by rw [h]; exact q
def canAt (s : Sys) (i : Nat) : Bool := match s.net[i]? with | some m => s.can m | none => false
def sdDeliv : Sd := fun ds R => ∃ (s : Sys), ds = [sysD s] ∧ s.net.length ≤ 1000 ∧ (∀ m, m ∈ s.net → m.l < s.homes.length) ∧ R (.tup ((LK.delivIdx s).map natD))
theorem ok_deliverable {f : Addr} {fd : FuncData} (D1 : Dfn K mg "deliverable" (topS 23) ["system"] f fd) (T : TCfg K C mg) (G : TGlb K C mg) (h_can_receive : Has P w K mg base 1 "can_receive" ["home", "message"] (SpP K C sdCan)) : Has P w K mg base 2 "deliverable" ["system"] (SpP K C sdDeliv) := by
  refine has_of D1 (fn_pure D1.F sc_deliverable (fun ds R ⟨_, e, _⟩ => by rw [e]; rfl) fun cdv A outer s H E ds R hr ⟨y, eq, hz, hm, hR⟩ => ?_)
  subst eq
  refine dss_env (env' := [_, _, _, _, _, _]) rfl ?_
  refine dss_cons (ds_par 1 2 rfl sc_deliverable.nd rfl rfl (by decide) rfl rfl (da_cons (de_ix (de_v 0 rfl rfl v23_system (de_int ⟨_, _, rfl, rfl, (da_cons (de_ix (de_v 0 rfl rfl v23_system (de_int ⟨_, _, rfl, rfl, (da_nil ⟨_, _, rfl, (dss_env (env' := [_, _, _, _, _, _]) rfl ?_)⟩)⟩))))⟩)))))
  refine dss_build 3 sc_deliverable.nd rfl rfl rfl T.no_tuple rfl ?_
  refine bs_forE 4 5 (fun t env' ds' => (∃ d4 d5, env' = [some (sysD y), some (.tup (y.homes.map homeD)), some (msgsD y.net), none, d4, d5]) ∧ ds' = ((List.range t).filter (canAt y)).map natD) PassesOwn.never rfl sc_deliverable.nd rfl rfl (by decide) (by decide) rfl rfl rfl T.no_enumerate (de_v 2 rfl rfl v23_network ⟨_, rfl, solids_map solid_msgD _, ⟨⟨_, _, rfl⟩, rfl⟩, ?_, ?_⟩)
  · intro t env' ds' d ⟨⟨d4, d5, he⟩, hds⟩ hd
    subst he
    subst hds
    obtain ⟨m, h1, h2⟩ := map_get hd
    subst h2
    have hml := hm m (List.mem_of_getElem? h1)
    have hh : y.homes[m.l]? = some (y.homes[m.l]) := List.getElem?_eq_getElem hml
    have hca : canAt y t = (m.k.toCache || LK.canRecv (y.homes[m.l]) m.k) := by
      unfold canAt LK.Sys.can
      rw [h1]
      simp only [hh]
    have htl : t < y.net.length := (List.getElem?_eq_some_iff.mp h1).1
    refine bs_env (env' := [_, _, _, _, _, _]) rfl ?_
    refine bss_cons (bs_if (dt_w (dw_or (dt_in (de_ix (de_v 5 rfl rfl v23_message (de_int ⟨_, _, rfl, rfl, (de_glb rfl G.TO_CACHES ⟨_, in_caches m.k, ?_⟩)⟩)))))))
    cases hc : m.k.toCache with
    | true =>
      rw [if_pos rfl]
      rw [hc, Bool.true_or] at hca
      refine bss_cons (bs_append rfl (.inl rfl) (fun d hd => ?_) (solids_map (fun _ => rfl) _) ?_ (de_v 4 rfl rfl v23_index ⟨rfl, bss_nil (bss_nil ⟨⟨_, _, rfl⟩, ?_⟩)⟩))
      · simp only [List.mem_cons, Option.some.injEq, List.not_mem_nil, or_false, reduceCtorEq, false_or] at hd
        rcases hd with rfl | rfl | rfl | rfl | rfl
        · exact solid_sysD _
        · exact solids_map solid_homeD _
        · exact solids_map solid_msgD _
        · rfl
        · exact solid_msgD _
      · rw [List.length_map]
        exact Nat.le_trans (List.length_filter_le _ _) (by rw [List.length_range]; omega)
      · rw [List.range_succ, List.filter_append, List.filter_cons, hca, if_pos rfl, List.filter_nil, List.map_append]; rfl
    | false =>
    rw [hc, Bool.false_or] at hca
    refine dw_one (dt_truth (de_callH h_can_receive (hr.mono (by decide)) rfl (da_cons (de_ix (de_v 1 rfl rfl v23_homes (de_ix (de_v 5 rfl rfl v23_message (de_int ⟨_, _, rfl, rfl, ⟨_, _, rfl, item_nat (by rw [List.getElem?_map, hh]; rfl), (da_cons (de_v 5 rfl rfl v23_message (da_nil ⟨_, _, rfl, ⟨_, rfl, ?_⟩⟩)))⟩⟩)))))))) (.inr rfl)
    rw [← hca]
    cases hc2 : canAt y t with
    | true =>
      rw [if_pos rfl]
      refine bss_cons (bs_append rfl (.inl rfl) (fun d hd => ?_) (solids_map (fun _ => rfl) _) ?_ (de_v 4 rfl rfl v23_index ⟨rfl, bss_nil (bss_nil ⟨⟨_, _, rfl⟩, ?_⟩)⟩))
      · simp only [List.mem_cons, Option.some.injEq, List.not_mem_nil, or_false, reduceCtorEq, false_or] at hd
        rcases hd with rfl | rfl | rfl | rfl | rfl
        · exact solid_sysD _
        · exact solids_map solid_homeD _
        · exact solids_map solid_msgD _
        · rfl
        · exact solid_msgD _
      · rw [List.length_map]
        exact Nat.le_trans (List.length_filter_le _ _) (by rw [List.length_range]; omega)
      · rw [List.range_succ, List.filter_append, List.filter_cons, hc2, if_pos rfl, List.filter_nil, List.map_append]; rfl
    | false =>
      rw [if_neg (by decide)]
      refine bss_nil (bss_nil ⟨⟨_, _, rfl⟩, ?_⟩)
      rw [List.range_succ, List.filter_append, List.filter_cons, hc2, if_neg (by decide), List.filter_nil, List.append_nil]
  · intro env' ds' ⟨⟨d4, d5, he⟩, hds⟩
    subst hds
    rw [List.length_map]
    exact hR
end
end WK
set_option maxRecDepth 100000
set_option maxHeartbeats 4000000
namespace WK
open PySem PySem.Spec PyProof.Rows L2
open LK (S3 MK Msg Cfg Cache Serv Home Sys)
section
variable {P : Program} {w : World} {K : PySem.W.Frag} {mg : Str → Option Value} {base : Heap} {C : Addr}
/-! ### delivered -/
theorem v24_config : VarOk (defScope (topS 24)) "config" := ⟨.inl rfl, by decide, by decide⟩
theorem v24_system : VarOk (defScope (topS 24)) "system" := ⟨.inl rfl, by decide, by decide⟩
theorem v24_index : VarOk (defScope (topS 24)) "index" := ⟨.inl rfl, by decide, by decide⟩
theorem v24_caches : VarOk (defScope (topS 24)) "caches" := ⟨.inl rfl, by decide, by decide⟩
theorem v24_homes : VarOk (defScope (topS 24)) "homes" := ⟨.inl rfl, by decide, by decide⟩
theorem v24_memory : VarOk (defScope (topS 24)) "memory" := ⟨.inl rfl, by decide, by decide⟩
theorem v24_network : VarOk (defScope (topS 24)) "network" := ⟨.inl rfl, by decide, by decide⟩
theorem v24_message : VarOk (defScope (topS 24)) "message" := ⟨.inl rfl, by decide, by decide⟩
theorem v24_rest : VarOk (defScope (topS 24)) "rest" := ⟨.inl rfl, by decide, by decide⟩
theorem v24_core : VarOk (defScope (topS 24)) "core" := ⟨.inl rfl, by decide, by decide⟩
theorem v24_line : VarOk (defScope (topS 24)) "line" := ⟨.inl rfl, by decide, by decide⟩
theorem v24_cache : VarOk (defScope (topS 24)) "cache" := ⟨.inl rfl, by decide, by decide⟩
theorem v24_messages : VarOk (defScope (topS 24)) "messages" := ⟨.inl rfl, by decide, by decide⟩
theorem v24_first : VarOk (defScope (topS 24)) "first" := ⟨.inl rfl, by decide, by decide⟩
theorem v24_home : VarOk (defScope (topS 24)) "home" := ⟨.inl rfl, by decide, by decide⟩
theorem v24_words : VarOk (defScope (topS 24)) "words" := ⟨.inl rfl, by decide, by decide⟩
theorem sc_delivered : FnScope ["config", "system", "index", "caches", "homes", "memory", "network", "message", "rest", "core", "line", "cache", "messages", "first", "home", "words"] ["config", "system", "index"] (defScope (topS 24)) := ⟨rfl, rfl, rfl, by decide +kernel, rfl, by decide +kernel, by decide +kernel⟩
structure SysOk (g : Cfg) (s : Sys) : Prop where
  ok : CfgOk g
  lw : g.lw ≤ 1000
  mem : s.mem ≤ 1000
  nc : s.caches.length ≤ 1000
  nh : s.homes.length ≤ 1000
  nn : s.net.length ≤ 1000
  cs : ∀ (k : Nat) (c : Cache), s.caches[k]? = some c → Small c
  hs : ∀ (l : Nat) (h : Home), s.homes[l]? = some h → SmallH h
  ml : ∀ m, m ∈ s.net → m.l < s.homes.length
def sdDlv : Sd := fun ds R => ∃ (g : Cfg) (s : Sys) (i : Nat) (t : Sys), ds = [.cfg g, sysD s, .int i] ∧ SysOk g s ∧ LK.delivered g s i = some t ∧ t.net.length ≤ 1000 ∧ t.mem ≤ 1000 ∧ R (sysD t)
theorem ok_delivered {f : Addr} {fd : FuncData} (D1 : Dfn K mg "delivered" (topS 24) ["config", "system", "index"] f fd) (T : TCfg K C mg) (G : TGlb K C mg) (h_replaced : Has P w K mg base 1 "replaced" ["parts", "index", "part"] (SpP K C sdRepl)) (h_cache_receives : Has P w K mg base 3 "cache_receives" ["cache", "message"] (SpP K C sdCacheR)) (h_home_receives : Has P w K mg base 2 "home_receives" ["config", "home", "words", "message"] (SpP K C sdHomeR)) : Has P w K mg base 4 "delivered" ["config", "system", "index"] (SpP K C sdDlv) := by
  refine has_of D1 (fn_pure D1.F sc_delivered (fun ds R ⟨_, _, _, _, e, _⟩ => by rw [e]; rfl) fun cdv A outer s H E ds R hr ⟨g, y, i, t, eq, z, hd, hnt, hmt, hR⟩ => ?_)
  subst eq
  unfold LK.delivered at hd
  cases hm : y.net[i]? with
  | none => rw [hm] at hd; cases hd
  | some m =>
  rw [hm] at hd
  simp only at hd
  have hil : i < y.net.length := (List.getElem?_eq_some_iff.mp hm).1
  have hlen := z.nn
  have hmem := z.mem
  refine dss_env (env' := [_, _, _, _, _, _, _, _, _, _, _, _, _, _, _, _]) rfl ?_
  refine dss_cons (ds_unpack [3, 4, 5, 6] rfl (pgs_cons (pg_name (i := 3) sc_delivered.nd rfl (.inl rfl)) (pgs_cons (pg_name (i := 4) sc_delivered.nd rfl (.inl rfl)) (pgs_cons (pg_name (i := 5) sc_delivered.nd rfl (.inl rfl)) (pgs_cons (pg_name (i := 6) sc_delivered.nd rfl (.inl rfl)) pgs_nil)))) rfl (de_v 1 rfl rfl v24_system ⟨_, rfl, rfl, (dss_env (env' := [_, _, _, _, _, _, _, _, _, _, _, _, _, _, _, _]) rfl ?_)⟩))
  refine dss_cons (ds_set 7 sc_delivered.nd rfl (.inl rfl) (de_ix (de_v 6 rfl rfl v24_network (de_v 2 rfl rfl v24_index ⟨_, _, rfl, item_nat (by rw [List.getElem?_map, hm]; rfl), (dss_env (env' := [_, _, _, _, _, _, _, _, _, _, _, _, _, _, _, _]) rfl ?_)⟩))))
  refine dss_cons (ds_set 8 sc_delivered.nd rfl (.inl rfl) (de_cat (de_slHi (de_v 6 rfl rfl v24_network (de_v 2 rfl rfl v24_index ⟨_, _, rfl, slt_hi _ _, (de_slLo (de_v 6 rfl rfl v24_network (de_add (de_v 2 rfl rfl v24_index (de_int ⟨_, _, rfl, rfl, ⟨_, _, rfl, slt_lo _ _, ⟨_, catD_tup ?_, (dss_env (env' := [_, _, _, _, _, _, _, _, _, _, _, _, _, _, _, _]) rfl ?_)⟩⟩⟩)))))⟩)))))
  · rw [List.length_take, List.length_drop, List.length_map]; omega
  rw [← List.map_take, ← List.map_drop, ← List.map_append]
  refine dss_env (env' := [_, _, _, _, _, _, _, _, _, _, _, _, _, _, _, _]) rfl ?_
  refine dss_cons (ds_par 9 10 rfl sc_delivered.nd rfl rfl (by decide) rfl rfl (da_cons (de_ix (de_v 7 rfl rfl v24_message (de_int ⟨_, _, rfl, rfl, (da_cons (de_ix (de_v 7 rfl rfl v24_message (de_int ⟨_, _, rfl, rfl, (da_nil ⟨_, _, rfl, (dss_env (env' := [_, _, _, _, _, _, _, _, _, _, _, _, _, _, _, _]) rfl ?_)⟩)⟩))))⟩)))))
  refine dss_cons (ds_if (dt_in (de_ix (de_v 7 rfl rfl v24_message (de_int ⟨_, _, rfl, rfl, (de_glb rfl G.TO_CACHES ⟨_, in_caches m.k, ?_⟩)⟩)))))
  cases hk : m.k.toCache with
  | true =>
    rw [hk] at hd
    rw [if_pos rfl] at hd ⊢
    cases hc : y.caches[m.c]? with
    | none => rw [hc] at hd; cases hd
    | some c =>
    rw [hc] at hd
    simp only at hd
    have hcl : m.c < y.caches.length := (List.getElem?_eq_some_iff.mp hc).1
    cases ha : LK.cacheRecv c m with
    | none => rw [ha] at hd; cases hd
    | some rr =>
    rw [ha] at hd
    cases hd
    simp only [List.length_append] at hnt
    refine dss_cons (ds_unpack [11, 12] rfl (pgs_cons (pg_name (i := 11) sc_delivered.nd rfl (.inl rfl)) (pgs_cons (pg_name (i := 12) sc_delivered.nd rfl (.inl rfl)) pgs_nil)) rfl (de_callH h_cache_receives (hr.mono (by decide)) rfl (da_cons (de_ix (de_v 3 rfl rfl v24_caches (de_v 9 rfl rfl v24_core ⟨_, _, rfl, item_nat (by rw [List.getElem?_map, hc]; rfl), (da_cons (de_v 7 rfl rfl v24_message (da_nil ⟨_, _, _, rfl, z.cs _ _ hc, ha, ⟨_, rfl, rfl, (dss_env (env' := [_, _, _, _, _, _, _, _, _, _, _, _, _, _, _, _]) rfl ?_)⟩⟩)))⟩))))))
    refine dss_cons (ds_ret (de_tup (da_cons (de_callH h_replaced (hr.mono (by decide)) rfl (da_cons (de_v 3 rfl rfl v24_caches (da_cons (de_v 9 rfl rfl v24_core (da_cons (de_v 11 rfl rfl v24_cache (da_nil ⟨_, _, _, rfl, by rw [List.length_map]; exact z.nc, by rw [List.length_map]; exact hcl, (da_cons (de_v 4 rfl rfl v24_homes (da_cons (de_v 5 rfl rfl v24_memory (da_cons (de_cat (de_v 8 rfl rfl v24_rest (de_v 12 rfl rfl v24_messages ⟨_, catD_tup ?_, (da_nil ⟨Nat.le_of_ble_eq_true rfl, ?_⟩)⟩))))))))⟩)))))))))))
    · rw [List.length_map, List.length_map, List.length_append]; exact Nat.le_trans hnt (Nat.le_of_ble_eq_true rfl)
    · rw [← List.map_set, ← List.map_append]
      exact hR
  | false =>
    rw [hk] at hd
    rw [if_neg (by decide)] at hd ⊢
    refine dss_nil ?_
    cases hh : y.homes[m.l]? with
    | none => rw [hh] at hd; cases hd
    | some h =>
    rw [hh] at hd
    simp only at hd
    have hhl : m.l < y.homes.length := (List.getElem?_eq_some_iff.mp hh).1
    cases ha : LK.homeRecv g h (LK.wordsAt g y.mem m.l) m with
    | none => rw [ha] at hd; cases hd
    | some rr =>
    rw [ha] at hd
    cases hd
    simp only [List.length_append] at hnt
    simp only at hmt
    have hlw := z.lw
    refine dss_cons (ds_set 13 sc_delivered.nd rfl (.inl rfl) (de_mul (de_v 10 rfl rfl v24_line (de_fld T.cls T.na_line_words sel_lw (de_v 0 rfl rfl v24_config ⟨_, rfl, ⟨_, _, rfl, rfl, .inr ⟨by omega, by omega⟩, ?_⟩⟩)))))
    rw [← Int.natCast_mul]
    refine dss_env (env' := [_, _, _, _, _, _, _, _, _, _, _, _, _, _, _, _]) rfl ?_
    refine dss_cons (ds_set 15 sc_delivered.nd rfl (.inl rfl) (de_sl2 (de_v 5 rfl rfl v24_memory (de_v 13 rfl rfl v24_first ⟨_, rfl, (de_add (de_v 13 rfl rfl v24_first (de_fld T.cls T.na_line_words sel_lw (de_v 0 rfl rfl v24_config ⟨_, rfl, ⟨_, _, rfl, rfl, ⟨_, _, rfl, slb_2 _ _ _, (dss_env (env' := [_, _, _, _, _, _, _, _, _, _, _, _, _, _, _, _]) rfl ?_)⟩⟩⟩))))⟩))))
    refine dss_cons (ds_unpack [14, 15, 12] rfl (pgs_cons (pg_name (i := 14) sc_delivered.nd rfl (.inl rfl)) (pgs_cons (pg_name (i := 15) sc_delivered.nd rfl (.inl rfl)) (pgs_cons (pg_name (i := 12) sc_delivered.nd rfl (.inl rfl)) pgs_nil))) rfl (de_callH h_home_receives (hr.mono (by decide)) rfl (da_cons (de_v 0 rfl rfl v24_config (da_cons (de_ix (de_v 4 rfl rfl v24_homes (de_v 10 rfl rfl v24_line ⟨_, _, rfl, item_nat (by rw [List.getElem?_map, hh]; rfl), (da_cons (de_v 15 rfl rfl v24_words (da_cons (de_v 7 rfl rfl v24_message (da_nil ⟨_, _, _, _, _, rfl, z.hs _ _ hh, ha, ⟨_, rfl, rfl, (dss_env (env' := [_, _, _, _, _, _, _, _, _, _, _, _, _, _, _, _]) rfl ?_)⟩⟩)))))⟩))))))))
    refine dss_cons (ds_set 5 sc_delivered.nd rfl (.inl rfl) (de_cat (de_cat (de_slHi (de_v 5 rfl rfl v24_memory (de_v 13 rfl rfl v24_first ⟨_, _, rfl, slb_hi _ _, (de_v 15 rfl rfl v24_words ⟨_, catD_blob ?_, (de_slLo (de_v 5 rfl rfl v24_memory (de_add (de_v 13 rfl rfl v24_first (de_fld T.cls T.na_line_words sel_lw (de_v 0 rfl rfl v24_config ⟨_, rfl, ⟨_, _, rfl, rfl, ⟨_, _, rfl, slb_lo _ _ _, ⟨_, catD_blob ?_, (dss_env (env' := [_, _, _, _, _, _, _, _, _, _, _, _, _, _, _, _]) rfl ?_)⟩⟩⟩⟩))))))⟩)⟩))))))
    · omega
    · omega
    refine dss_cons (ds_ret (de_tup (da_cons (de_v 3 rfl rfl v24_caches (da_cons (de_callH h_replaced (hr.mono (by decide)) rfl (da_cons (de_v 4 rfl rfl v24_homes (da_cons (de_v 10 rfl rfl v24_line (da_cons (de_v 14 rfl rfl v24_home (da_nil ⟨_, _, _, rfl, by rw [List.length_map]; exact z.nh, by rw [List.length_map]; exact hhl, (da_cons (de_v 5 rfl rfl v24_memory (da_cons (de_cat (de_v 8 rfl rfl v24_rest (de_v 12 rfl rfl v24_messages ⟨_, catD_tup ?_, (da_nil ⟨Nat.le_of_ble_eq_true rfl, ?_⟩)⟩))))))⟩)))))))))))))
    · rw [List.length_map, List.length_map, List.length_append]; exact Nat.le_trans hnt (Nat.le_of_ble_eq_true rfl)
    · rw [← List.map_set, ← List.map_append]
      exact hR
end
end WK
set_option maxRecDepth 100000
set_option maxHeartbeats 4000000
namespace WK
open PySem PySem.Spec PyProof.Rows L2
open LK (S3 MK Msg Cfg Cache Serv Home Sys)
section
variable {P : Program} {w : World} {K : PySem.W.Frag} {mg : Str → Option Value} {base : Heap} {C : Addr}
/-! ### next_system -/
theorem v25_config : VarOk (defScope (topS 25)) "config" := ⟨.inl rfl, by decide, by decide⟩
theorem v25_system : VarOk (defScope (topS 25)) "system" := ⟨.inl rfl, by decide, by decide⟩
theorem v25_action : VarOk (defScope (topS 25)) "action" := ⟨.inl rfl, by decide, by decide⟩
theorem v25_caches : VarOk (defScope (topS 25)) "caches" := ⟨.inl rfl, by decide, by decide⟩
theorem v25_homes : VarOk (defScope (topS 25)) "homes" := ⟨.inl rfl, by decide, by decide⟩
theorem v25_memory : VarOk (defScope (topS 25)) "memory" := ⟨.inl rfl, by decide, by decide⟩
theorem v25_network : VarOk (defScope (topS 25)) "network" := ⟨.inl rfl, by decide, by decide⟩
theorem v25_core : VarOk (defScope (topS 25)) "core" := ⟨.inl rfl, by decide, by decide⟩
theorem v25_line : VarOk (defScope (topS 25)) "line" := ⟨.inl rfl, by decide, by decide⟩
theorem v25_changed : VarOk (defScope (topS 25)) "changed" := ⟨.inl rfl, by decide, by decide⟩
theorem sc_next_system : FnScope ["config", "system", "action", "caches", "homes", "memory", "network", "core", "line", "changed"] ["config", "system", "action"] (defScope (topS 25)) := ⟨rfl, rfl, rfl, by decide +kernel, rfl, by decide +kernel, by decide +kernel⟩
def actD : LK.Act → D
  | .deliver i => .tup [.str "deliver", .int i]
  | .evict k l => .tup [.str "evict", .int k, .int l]
  | .request k l e => .tup [.str "request", .int k, .int l, .bl e]
def nextS (g : Cfg) (s : Sys) : LK.Act → Option Sys
  | .deliver i => if i ∈ LK.delivIdx s then LK.delivered g s i else none
  | .evict k l => LK.act2 g s k l none
  | .request k l e => LK.act2 g s k l (some e)
def optS : Option Sys → D
  | none => .non
  | some s => sysD s
def sdNext : Sd := fun ds R => ∃ (g : Cfg) (s : Sys) (a : LK.Act), ds = [.cfg g, sysD s, actD a] ∧ SysOk g s ∧ (∀ t, nextS g s a = some t → t.net.length ≤ 1000 ∧ t.mem ≤ 1000) ∧ (∀ i, a = .deliver i → i ∈ LK.delivIdx s → ∃ t, LK.delivered g s i = some t) ∧ R (optS (nextS g s a))
theorem ok_next_system {f : Addr} {fd : FuncData} (D1 : Dfn K mg "next_system" (topS 25) ["config", "system", "action"] f fd) (T : TCfg K C mg) (G : TGlb K C mg) (h_replaced : Has P w K mg base 1 "replaced" ["parts", "index", "part"] (SpP K C sdRepl)) (h_delivered : Has P w K mg base 4 "delivered" ["config", "system", "index"] (SpP K C sdDlv)) (h_deliverable : Has P w K mg base 2 "deliverable" ["system"] (SpP K C sdDeliv)) (h_request_line : Has P w K mg base 2 "request_line" ["config", "cache", "core", "line", "exclusive"] (SpP K C sdReq)) (h_give_up_line : Has P w K mg base 2 "give_up_line" ["cache", "core", "line"] (SpP K C sdGive)) : Has P w K mg base 5 "next_system" ["config", "system", "action"] (SpP K C sdNext) := by
  refine has_of D1 (fn_pure D1.F sc_next_system (fun ds R ⟨_, _, _, e, _⟩ => by rw [e]; rfl) fun cdv A outer s H E ds R hr ⟨g, y, a, eq, z, hbd, hdl, hR⟩ => ?_)
  subst eq
  refine dss_env (env' := [_, _, _, _, _, _, _, _, _, _]) rfl ?_
  refine dss_cons (ds_unpack [3, 4, 5, 6] rfl (pgs_cons (pg_name (i := 3) sc_next_system.nd rfl (.inl rfl)) (pgs_cons (pg_name (i := 4) sc_next_system.nd rfl (.inl rfl)) (pgs_cons (pg_name (i := 5) sc_next_system.nd rfl (.inl rfl)) (pgs_cons (pg_name (i := 6) sc_next_system.nd rfl (.inl rfl)) pgs_nil)))) rfl (de_v 1 rfl rfl v25_system ⟨_, rfl, rfl, (dss_env (env' := [_, _, _, _, _, _, _, _, _, _]) rfl ?_)⟩))
  have fin : ∀ {k l : Nat} {e : Option Bool} {d2 d9 : D} {c : Cache} {o : Option (Cache × List Msg)}, y.caches[k]? = some c → l < y.homes.length → (o = match e with | some e => LK.requestLine g c k l e | none => LK.giveUp c k l) → (∀ t, LK.act2 g y k l e = some t → t.net.length ≤ 1000 ∧ t.mem ≤ 1000) → R (optS (LK.act2 g y k l e)) →
      DSs (cxOf CX0 P w K mg base ["config", "system", "action", "caches", "homes", "memory", "network", "core", "line", "changed"] "next_system" (defScope (topS 25)) f cdv A outer s H E).nox C none ((defBody (topS 25)).drop 5)
        [some (.cfg g), some (sysD y), some d2, some (.tup (y.caches.map cacheD)), some (.tup (y.homes.map homeD)), some (.blob y.mem), some (msgsD y.net), some (.int k), some (.int l), some (resD o)] ⟨fun _ => R .non, R, fun _ => False, fun _ => False⟩ := fun {k l e d2 d9 c o} hc hl ho hb hR => by
    have hcl : k < y.caches.length := (List.getElem?_eq_some_iff.mp hc).1
    have ha : LK.act2 g y k l e = o.map (fun r => ⟨y.caches.set k r.1, y.homes, y.mem, y.net ++ r.2⟩) := by
      unfold LK.act2
      rw [if_pos hl, hc, ho]
      cases e <;> simp only <;> split <;> simp_all
    rw [ha] at hR hb
    refine dss_cons (ds_if (dt_isN (de_v 9 rfl rfl v25_changed ?_)))
    cases o with
    | none => exact dss_cons (ds_ret (de_non hR))
    | some rr =>
      have h2 := (hb _ rfl).1
      simp only [List.length_append] at h2
      refine dss_nil ?_
      refine dss_cons (ds_ret (de_tup (da_cons (de_callH h_replaced (hr.mono (by decide)) rfl (da_cons (de_v 3 rfl rfl v25_caches (da_cons (de_v 7 rfl rfl v25_core (da_cons (de_ix (de_v 9 rfl rfl v25_changed (de_int ⟨_, _, rfl, rfl, (da_nil ⟨_, _, _, rfl, by rw [List.length_map]; exact z.nc, by rw [List.length_map]; exact hcl, (da_cons (de_v 4 rfl rfl v25_homes (da_cons (de_v 5 rfl rfl v25_memory (da_cons (de_cat (de_v 6 rfl rfl v25_network (de_ix (de_v 9 rfl rfl v25_changed (de_int ⟨_, _, rfl, rfl, ⟨_, catD_tup ?_, (da_nil ⟨Nat.le_of_ble_eq_true rfl, ?_⟩)⟩⟩))))))))))⟩)⟩))))))))))))
      · rw [List.length_map, List.length_map]; omega
      · rw [← List.map_set, ← List.map_append]
        exact hR
  cases a with
  | deliver i =>
    refine dss_cons (ds_if (dt_eq (de_ix (de_v 2 rfl rfl v25_action (de_int ⟨_, _, rfl, rfl, (de_str ⟨_, rfl, ?_⟩)⟩)))))
    refine dss_cons (ds_if (dt_notIn (de_ix (de_v 2 rfl rfl v25_action (de_int ⟨_, _, rfl, rfl, (de_callH h_deliverable (hr.mono (by decide)) rfl (da_cons (de_v 1 rfl rfl v25_system (da_nil ⟨_, rfl, z.nn, z.ml, ⟨_, in_nats i _, ?_⟩⟩))))⟩)))))
    by_cases hi : i ∈ LK.delivIdx y
    · have hi2 : (LK.delivIdx y).contains i = true := by simpa using hi
      rw [hi2, Bool.not_true, if_neg (by decide)]
      refine dss_nil ?_
      obtain ⟨t, ht⟩ := hdl i rfl hi
      have hn : nextS g y (.deliver i) = some t := by
        show (if i ∈ LK.delivIdx y then LK.delivered g y i else none) = _
        rw [if_pos hi, ht]
      have hb := hbd t hn
      rw [hn] at hR
      exact dss_cons (ds_ret (de_callH h_delivered (hr.mono (by decide)) rfl (da_cons (de_v 0 rfl rfl v25_config (da_cons (de_v 1 rfl rfl v25_system (da_cons (de_ix (de_v 2 rfl rfl v25_action (de_int ⟨_, _, rfl, rfl, (da_nil ⟨_, _, _, _, rfl, z, ht, hb.1, hb.2, hR⟩)⟩))))))))))
    · have hi2 : (LK.delivIdx y).contains i = false := by simpa using hi
      rw [hi2, Bool.not_false, if_pos rfl]
      have hn : nextS g y (.deliver i) = none := by
        show (if i ∈ LK.delivIdx y then LK.delivered g y i else none) = _
        rw [if_neg hi]
      rw [hn] at hR
      exact dss_cons (ds_ret (de_non hR))
  | evict k l =>
    refine dss_cons (ds_if (dt_eq (de_ix (de_v 2 rfl rfl v25_action (de_int ⟨_, _, rfl, rfl, (de_str ⟨_, rfl, ?_⟩)⟩)))))
    refine dss_nil ?_
    refine dss_cons (ds_par 7 8 rfl sc_next_system.nd rfl rfl (by decide) rfl rfl (da_cons (de_ix (de_v 2 rfl rfl v25_action (de_int ⟨_, _, rfl, rfl, (da_cons (de_ix (de_v 2 rfl rfl v25_action (de_int ⟨_, _, rfl, rfl, (da_nil ⟨_, _, rfl, (dss_env (env' := [_, _, _, _, _, _, _, _, _, _]) rfl ?_)⟩)⟩))))⟩)))))
    refine dss_cons (ds_if (dt_not (dt_w (dw_and (dt_chain (de_int (de_v 7 rfl rfl v25_core ⟨_, _, rfl, rfl, ?_⟩)))))))
    rw [if_pos (Int.natCast_nonneg _)]
    refine (de_len rfl T.no_len (de_v 3 rfl rfl v25_caches ⟨_, rfl, ⟨_, rfl, ?_⟩⟩))
    by_cases hkc : k < y.caches.length
    · rw [decide_eq_true (by rw [List.length_map]; omega), if_pos rfl]
      refine dw_one (dt_chain (de_int (de_v 8 rfl rfl v25_line ⟨_, _, rfl, rfl, ?_⟩))) (.inl rfl)
      rw [if_pos (Int.natCast_nonneg _)]
      refine (de_len rfl T.no_len (de_v 4 rfl rfl v25_homes ⟨_, rfl, ⟨_, rfl, ?_⟩⟩))
      by_cases hl : l < y.homes.length
      · rw [decide_eq_true (by rw [List.length_map]; omega), Bool.not_true, if_neg (by decide)]
        refine dss_nil ?_
        have hc : y.caches[k]? = some (y.caches[k]) := List.getElem?_eq_getElem hkc
        refine dss_cons (ds_if (dt_eq (de_ix (de_v 2 rfl rfl v25_action (de_int ⟨_, _, rfl, rfl, (de_str ⟨_, rfl, ?_⟩)⟩)))))
        refine dss_cons (ds_set 9 sc_next_system.nd rfl (.inl rfl) (de_callH h_give_up_line (hr.mono (by decide)) rfl (da_cons (de_ix (de_v 3 rfl rfl v25_caches (de_v 7 rfl rfl v25_core ⟨_, _, rfl, item_nat (by rw [List.getElem?_map, hc]; rfl), (da_cons (de_v 7 rfl rfl v25_core (da_cons (de_v 8 rfl rfl v25_line (da_nil ⟨_, _, _, rfl, z.cs _ _ hc, (dss_env (env' := [_, _, _, _, _, _, _, _, _, _]) rfl ?_)⟩)))))⟩))))))
        refine dss_nil ?_
        refine dss_env (env' := [_, _, _, _, _, _, _, _, _, _]) rfl ?_
        exact fin (d9 := .non) (e := none) hc hl rfl hbd hR
      · rw [decide_eq_false (by rw [List.length_map]; omega), Bool.not_false, if_pos rfl]
        have hn : LK.act2 g y k l none = none := by
          unfold LK.act2
          rw [if_neg hl]
        unfold nextS at hR
        simp only [hn] at hR
        exact dss_cons (ds_ret (de_non hR))
    · rw [decide_eq_false (by rw [List.length_map]; omega), if_neg (by decide)]
      show (if (!false) = true then _ else _)
      rw [Bool.not_false, if_pos rfl]
      have hn : LK.act2 g y k l none = none := by
        unfold LK.act2
        split
        · rw [List.getElem?_eq_none (by omega)]
        · rfl
      unfold nextS at hR
      simp only [hn] at hR
      exact dss_cons (ds_ret (de_non hR))
  | request k l e =>
    refine dss_cons (ds_if (dt_eq (de_ix (de_v 2 rfl rfl v25_action (de_int ⟨_, _, rfl, rfl, (de_str ⟨_, rfl, ?_⟩)⟩)))))
    refine dss_nil ?_
    refine dss_cons (ds_par 7 8 rfl sc_next_system.nd rfl rfl (by decide) rfl rfl (da_cons (de_ix (de_v 2 rfl rfl v25_action (de_int ⟨_, _, rfl, rfl, (da_cons (de_ix (de_v 2 rfl rfl v25_action (de_int ⟨_, _, rfl, rfl, (da_nil ⟨_, _, rfl, (dss_env (env' := [_, _, _, _, _, _, _, _, _, _]) rfl ?_)⟩)⟩))))⟩)))))
    refine dss_cons (ds_if (dt_not (dt_w (dw_and (dt_chain (de_int (de_v 7 rfl rfl v25_core ⟨_, _, rfl, rfl, ?_⟩)))))))
    rw [if_pos (Int.natCast_nonneg _)]
    refine (de_len rfl T.no_len (de_v 3 rfl rfl v25_caches ⟨_, rfl, ⟨_, rfl, ?_⟩⟩))
    by_cases hkc : k < y.caches.length
    · rw [decide_eq_true (by rw [List.length_map]; omega), if_pos rfl]
      refine dw_one (dt_chain (de_int (de_v 8 rfl rfl v25_line ⟨_, _, rfl, rfl, ?_⟩))) (.inl rfl)
      rw [if_pos (Int.natCast_nonneg _)]
      refine (de_len rfl T.no_len (de_v 4 rfl rfl v25_homes ⟨_, rfl, ⟨_, rfl, ?_⟩⟩))
      by_cases hl : l < y.homes.length
      · rw [decide_eq_true (by rw [List.length_map]; omega), Bool.not_true, if_neg (by decide)]
        refine dss_nil ?_
        have hc : y.caches[k]? = some (y.caches[k]) := List.getElem?_eq_getElem hkc
        refine dss_cons (ds_if (dt_eq (de_ix (de_v 2 rfl rfl v25_action (de_int ⟨_, _, rfl, rfl, (de_str ⟨_, rfl, ?_⟩)⟩)))))
        refine dss_cons (ds_set 9 sc_next_system.nd rfl (.inl rfl) (de_callH h_request_line (hr.mono (by decide)) rfl (da_cons (de_v 0 rfl rfl v25_config (da_cons (de_ix (de_v 3 rfl rfl v25_caches (de_v 7 rfl rfl v25_core ⟨_, _, rfl, item_nat (by rw [List.getElem?_map, hc]; rfl), (da_cons (de_v 7 rfl rfl v25_core (da_cons (de_v 8 rfl rfl v25_line (da_cons (de_ix (de_v 2 rfl rfl v25_action (de_int ⟨_, _, rfl, rfl, (da_nil ⟨_, _, _, _, _, rfl, z.ok, z.cs _ _ hc, (dss_env (env' := [_, _, _, _, _, _, _, _, _, _]) rfl ?_)⟩)⟩))))))))⟩))))))))
        refine dss_nil ?_
        refine dss_env (env' := [_, _, _, _, _, _, _, _, _, _]) rfl ?_
        exact fin (d9 := .non) (e := (some e)) hc hl rfl hbd hR
      · rw [decide_eq_false (by rw [List.length_map]; omega), Bool.not_false, if_pos rfl]
        have hn : LK.act2 g y k l (some e) = none := by
          unfold LK.act2
          rw [if_neg hl]
        unfold nextS at hR
        simp only [hn] at hR
        exact dss_cons (ds_ret (de_non hR))
    · rw [decide_eq_false (by rw [List.length_map]; omega), if_neg (by decide)]
      show (if (!false) = true then _ else _)
      rw [Bool.not_false, if_pos rfl]
      have hn : LK.act2 g y k l (some e) = none := by
        unfold LK.act2
        split
        · rw [List.getElem?_eq_none (by omega)]
        · rfl
      unfold nextS at hR
      simp only [hn] at hR
      exact dss_cons (ds_ret (de_non hR))
end
end WK
set_option maxRecDepth 100000
set_option maxHeartbeats 4000000
namespace WK
open PySem PySem.Spec PyProof.Rows L2
open LK (S3 MK Msg Cfg Cache Serv Home Sys)
/-! ### Config(..) -/
abbrev sCfg : Stmt := inClass (topS 27) 0
def cfgPs : List Str := ["self", "order", "reorder_buffer", "store_buffer", "line_words", "sets", "ways", "requests", "exclusive_state"]
def cfgKs : List Str := ["line_words", "sets", "ways", "requests", "exclusive_state"]
theorem sc_config : FnScope cfgPs cfgPs (defScope sCfg) := ⟨rfl, rfl, rfl, by decide +kernel, rfl, by decide +kernel, by decide +kernel⟩
theorem putF_len (x : Str) (v : V) : ∀ fs : List (Str × V), (putF x v fs).length ≤ fs.length + 1
  | [] => Nat.le_refl _
  | (g, y) :: r => by
    show (if g = x then (g, v) :: r else (g, y) :: putF x v r).length ≤ _
    split
    · simp
    · have := putF_len x v r
      simp only [List.length_cons]; omega
theorem putF_lt {x : Str} {v : V} {fs : List (Str × V)} {n : Nat} (h : fs.length ≤ n) : (putF x v fs).length ≤ n + 1 := Nat.le_trans (putF_len x v fs) (by omega)
theorem lk_eq {x : Str} {v : V} {fs : List (Str × V)} : (putF x v fs).lookup x = some v := by rw [lookup_putF, if_pos rfl]
theorem lk_ne {x y : Str} {v : V} {o : Option V} {fs : List (Str × V)} (h : ¬ y = x) (h2 : fs.lookup y = o) : (putF x v fs).lookup y = o := by rw [lookup_putF, if_neg h]; exact h2
structure TNew (K : PySem.W.Frag) (C : Addr) (mg : Str → Option Value) (f : Addr) : Prop where
  na_order : NoAttr K C "order"
  na_rob : NoAttr K C "reorder_buffer"
  na_sb : NoAttr K C "store_buffer"
  made : Mk K C f
  g : mg "Config" = some (.ref C)
def cfgFlds (o b1 b2 : V) (g : Cfg) : List (Str × V) :=
  putF "exclusive_state" (.bl g.alone) (putF "requests" (.int g.reqs) (putF "ways" (.int g.ways) (putF "sets" (.int g.sets) (putF "line_words" (.int g.lw) (putF "store_buffer" b2 (putF "reorder_buffer" b1 (putF "order" o [])))))))
theorem cfg_flds (o b1 b2 : V) (g : Cfg) : CfgFs g (cfgFlds o b1 b2 g) := by
  unfold CfgFs cfgFlds
  refine ⟨?_, ?_, ?_, ?_, lk_eq⟩
  · exact lk_ne (by decide +kernel) (lk_ne (by decide +kernel) (lk_ne (by decide +kernel) (lk_ne (by decide +kernel) lk_eq)))
  · exact lk_ne (by decide +kernel) (lk_ne (by decide +kernel) (lk_ne (by decide +kernel) lk_eq))
  · exact lk_ne (by decide +kernel) (lk_ne (by decide +kernel) lk_eq)
  · exact lk_ne (by decide +kernel) lk_eq
def spCfg (C : Addr) : Sp := fun vs H Q _ => ∃ (p dx : Addr) (o b1 b2 : V) (g : Cfg), vs = [.ref p, o, b1, b2, .int g.lw, .int g.sets, .int g.ways, .int g.reqs, .bl g.alone] ∧ H p = some (.ins C dx []) ∧
  ∀ H', (∀ b, b ≠ p → H' b = H b) → H' p = some (.ins C dx (cfgFlds o b1 b2 g)) → Q .non H'
section
variable {P : Program} {w : World} {K : PySem.W.Frag} {mg : Str → Option Value} {base : Heap} {C : Addr}
theorem ok_config {f : Addr} {fd : FuncData} {kws : List (Str × V)} (F : FunD K "__init__" "Config.__init__" (defArgs sCfg) (defBody sCfg) (defScope sCfg) [] kws f fd) (T : TCfg K C mg) (N : TNew K C mg f) : FnOk P w K mg base CX0 1 f fd cfgPs (spCfg C) := by
  refine F.ok sc_config (fun vs H Q E h => ?_) (fun cdv A outer s H vs Q E hr h => ?_)
  · obtain ⟨p, dx, o, b1, b2, g, rfl, _⟩ := h
    rfl
  · obtain ⟨p, dx, o, b1, b2, g, rfl, hp, q⟩ := h
    refine ⟨_, pss_cons (ps_fld (pv 0) (pv 1) rfl) (pss_cons (ps_fld (pv 0) (pv 2) rfl) (pss_cons (ps_fld (pv 0) (pv 3) rfl) (pss_cons (ps_fld (pv 0) (pv 4) rfl) (pss_cons (ps_fld (pv 0) (pv 5) rfl) (pss_cons (ps_fld (pv 0) (pv 6) rfl) (pss_cons (ps_fld (pv 0) (pv 7) rfl) (pss_one (ps_fld (pv 0) (pv 8) rfl)))))))), ?_⟩
    have s1000 : ∀ {n : Nat}, n ≤ 20 → n < 1000 := fun h => by omega
    refine ⟨_, rfl, _, rfl, p, C, dx, _, rfl, hp, T.cls, N.na_order, (by show 0 < 1000; decide), ?_⟩
    refine ⟨_, rfl, _, rfl, p, C, dx, _, rfl, upd_same, T.cls, N.na_rob, s1000 (Nat.le_trans (putF_len _ _ _) (by decide)), ?_⟩
    refine ⟨_, rfl, _, rfl, p, C, dx, _, rfl, upd_same, T.cls, N.na_sb, s1000 (Nat.le_trans (putF_lt (putF_len _ _ _)) (by decide)), ?_⟩
    refine ⟨_, rfl, _, rfl, p, C, dx, _, rfl, upd_same, T.cls, T.na_line_words, s1000 (Nat.le_trans (putF_lt (putF_lt (putF_len _ _ _))) (by decide)), ?_⟩
    refine ⟨_, rfl, _, rfl, p, C, dx, _, rfl, upd_same, T.cls, T.na_sets, s1000 (Nat.le_trans (putF_lt (putF_lt (putF_lt (putF_len _ _ _)))) (by decide)), ?_⟩
    refine ⟨_, rfl, _, rfl, p, C, dx, _, rfl, upd_same, T.cls, T.na_ways, s1000 (Nat.le_trans (putF_lt (putF_lt (putF_lt (putF_lt (putF_len _ _ _))))) (by decide)), ?_⟩
    refine ⟨_, rfl, _, rfl, p, C, dx, _, rfl, upd_same, T.cls, T.na_requests, s1000 (Nat.le_trans (putF_lt (putF_lt (putF_lt (putF_lt (putF_lt (putF_len _ _ _)))))) (by decide)), ?_⟩
    refine ⟨_, rfl, _, rfl, p, C, dx, _, rfl, upd_same, T.cls, T.na_exclusive_state, s1000 (Nat.le_trans (putF_lt (putF_lt (putF_lt (putF_lt (putF_lt (putF_lt (putF_len _ _ _))))))) (by decide)), ?_⟩
    refine q _ (fun b hb => ?_) upd_same
    rw [upd_ne hb, upd_ne hb, upd_ne hb, upd_ne hb, upd_ne hb, upd_ne hb, upd_ne hb, upd_ne hb]
end
section
variable {K : PySem.W.Frag} {f : Addr} {fd : FuncData} {kws : List (Str × V)}
theorem cfg_binds (F : FunD K "__init__" "Config.__init__" (defArgs sCfg) (defBody sCfg) (defScope sCfg) [] kws f fd) (h1 : (("reorder_buffer" : Str), V.int 4) ∈ kws) (h2 : (("store_buffer" : Str), V.int 2) ∈ kws) :
    ∃ mv : List Value, KBn K fd cfgPs 2 cfgKs (fun us ws => us ++ (mv ++ ws)) (fun vs zs => vs ++ ([.int 4, .int 2] ++ zs)) := by
  refine FunD.kbinds0 F 2 cfgKs [("reorder_buffer", .int 4), ("store_buffer", .int 2)] (fun us mv ws => us ++ (mv ++ ws)) (fun e => ?_) (fun q hq => ?_) (fun r1 r2 r3 => r1.append (r2.append r3)) ?_
  · rw [e] at h1; cases h1
  · rcases List.mem_cons.mp hq with e | hq
    · rw [e]; exact h1
    · rcases List.mem_cons.mp hq with e | hq
      · rw [e]; exact h2
      · cases hq
  · intro D doc pm an cdv ct us mv ws l1 l2 l3
    match us, mv, ws, l1, l2, l3 with
    | [u1, u2], [m1, m2], [w1, w2, w3, w4, w5], _, _, _ =>
      exact ⟨_, _, _, _, _, _, rfl, rfl, _, _, _, _, _, _, rfl, rfl, rfl⟩
end
end WK
set_option maxRecDepth 100000
set_option maxHeartbeats 4000000
/-! The tape: read, written; a configuration made; a list looped over. -/
namespace WK
open PySem PySem.Spec PyProof.Rows L2
open LK (S3 MK Msg Cfg Cache Serv Home Sys)
section
variable {X : Cx} {C : Addr} {u : Tp} {env : Env} {e : Expr} {pos p p2 : Pos} {x : Str}
theorem tp_read {Q : D → Prop} (i k : Nat) {jj : Nat} (hN : X.N[i]? = some x) (he : env[i]? = some (some (.adr u.a))) (h : VarOk X.env.scope x)
    (q : ∀ (a n t : Int), 0 ≤ a → 0 ≤ n → 0 ≤ t → t < 2147483647 → ∃ d, ([D.ilst u.xs, .int a, .int n, .int t] : List D)[k]? = some d ∧ Q d) (hs : PlainIx (.Constant (.int (k : Nat)) jj p2) := by exact fun _ _ => rfl) :
    DE X C (some u) (.Subscript (.Name x p) (.Constant (.int (k : Nat)) jj p2) pos) env Q :=
  de_of (pe_ix ix_list (pe_var hN h.v h.d h.c) pe_int hs) fun σ H g s Q' l => by
    obtain ⟨v, h1, h2⟩ := s.get i _ he
    obtain ⟨a, n, t, t1, t2, t3, t4, t5, t6⟩ := g
    obtain ⟨d, d1, d2⟩ := q a n t t3 t4 t5 t6
    cases h2
    have hr : RpAll X.K C H [.ref u.L, .int a, .int n, .int t] [D.ilst u.xs, .int a, .int n, .int t] := .cons (.ilst t2) (.cons (.int _) (.cons (.int _) (.cons (.int _) .nil)))
    obtain ⟨w, w1, w2⟩ := hr.get d1
    exact ⟨_, h1, _, _, (k : Nat), w, rfl, rfl, .inl (.inl t1), at_of rfl w1, l _ _ H (Keep.refl ⟨a, n, t, t1, t2, t3, t4, t5, t6⟩) w2 d2⟩
theorem tp_put {K : PySem.W.Frag} {H : Hp} {a n t a2 n2 t2 : Int} (g : IsTape K H u) (h : 0 ≤ a2 ∧ 0 ≤ n2 ∧ 0 ≤ t2 ∧ t2 < 2147483647) : Keep K (some u) H (upd H u.a (.lst [.ref u.L, .int a2, .int n2, .int t2])) := by
  obtain ⟨a1, n1, t1, h1, h2, h3⟩ := g
  refine ⟨fun b o hb e => by rw [upd_ne hb]; exact e, ⟨a1, n1, t1, h1, h2, h3⟩, a2, n2, t2, upd_same, ?_, h⟩
  rcases h2 with (h2 | ⟨o, h2⟩) | h2
  · refine .inl (.inl ?_)
    rw [upd_ne (fun e => ?_)]
    · exact h2
    · rw [e, h1] at h2
      injection h2 with h2
      injection h2 with h2
      exact ints_no _ _ _ _ _ h2.symm
  · refine .inl (.inr ⟨o, ?_⟩)
    rw [upd_ne (fun e => ?_)]
    · exact h2
    · rw [e, h1] at h2; cases h2
  · exact .inr h2
/-- tape[k] = e, k one of 1, 2, 3 -/
theorem tp_write {E : DEnds} (i k : Nat) {jj : Nat} {p3 : Pos} (hN : X.N[i]? = some x) (he : env[i]? = some (some (.adr u.a))) (h : VarOk X.env.scope x) (hk : 1 ≤ k ∧ k ≤ 3)
    (q : DE X C (some u) e env fun d => ∃ z : Int, d = .int z ∧ 0 ≤ z ∧ (k = 3 → z < 2147483647) ∧ E.nx env)
    (hs : swapsWithSole [.Subscript (.Name x p) (.Constant (.int (k : Nat)) jj p2) p3] e pos.line X.env = pure false := by rfl) (hw : swappedStores [.Subscript (.Name x p) (.Constant (.int (k : Nat)) jj p2) p3] e X.env = pure none := by rfl)
    (h1 : (assignEach [.Subscript (.Name x p) (.Constant (.int (k : Nat)) jj p2) p3] X.env).map (·.2) = [assign (.Subscript (.Name x p) (.Constant (.int (k : Nat)) jj p2) p3) X.env] := by rfl)
    (ha : ∀ v, assign (.Subscript (.Name x p) (.Constant (.int (k : Nat)) jj p2) p3) X.env v = (do
      let ov ← holding [v] (eval (.Name x p) X.env)
      let iv ← holding [v, ov] (eval (.Constant (.int (k : Nat)) jj p2) X.env)
      standAt p3
      holding [v, ov, iv] (setItem ov iv v)
      release [v, ov, iv] []) := by intro _; rfl) : DS X C (some u) (.Assign [.Subscript (.Name x p) (.Constant (.int (k : Nat)) jj p2) p3] e pos) env E :=
  ds_of (ps_asg pE (pg_sub (pe_var hN h.v h.d h.c) pe_int set_list ha) hs hw h1) fun σ H g s De l => q σ H g s _ fun v d H1 k1 r1 ⟨z, e, z0, z1, q⟩ => by
    subst e
    cases r1
    obtain ⟨v, w1, w2⟩ := (s.keep k1).get i _ he
    cases w2
    obtain ⟨a, n, t, t1, t2, t3, t4, t5, t6⟩ := k1.2.2
    have fin : ∀ {a2 n2 t2 : Int}, (0 ≤ a2 ∧ 0 ≤ n2 ∧ 0 ≤ t2 ∧ t2 < 2147483647) → De.nx σ (upd H1 u.a (.lst [.ref u.L, .int a2, .int n2, .int t2])) := fun hb => by
      have k2 := tp_put (a := a) (n := n) (t := t) k1.2.2 hb
      exact l.nx σ env _ (k1.trans k2) ((s.keep k1).keep k2) q
    rcases (show k = 1 ∨ k = 2 ∨ k = 3 by omega) with rfl | rfl | rfl
    · exact ⟨_, w1, u.a, _, _, 1, rfl, rfl, t1, rfl, fin ⟨z0, t4, t5, t6⟩⟩
    · exact ⟨_, w1, u.a, _, _, 2, rfl, rfl, t1, rfl, fin ⟨t3, z0, t5, t6⟩⟩
    · exact ⟨_, w1, u.a, _, _, 3, rfl, rfl, t1, rfl, fin ⟨t3, t4, z0, z1 rfl⟩⟩
end
section
variable {X : Cx} {C : Addr} {M : Option Tp} {env : Env} {e a : Expr} {pos p p2 : Pos} {x : Str}
/-! ### a configuration made -/
def wK (X : Cx) (kws : List Keyword) : TA := fun σ H Q => ∀ pos pins s, Inv X pins σ H s → wpAny (model X.prog X.w) X.A (evalAll ((backToKw pos (keywordEach kws X.env)).map (·.2))) (AP X pins σ Q) X.xe s
theorem pK {kws : List Keyword} : PK X kws (wK X kws) := ⟨fun pos pins s _ _ _ I h => h pos pins s I⟩
abbrev DK (X : Cx) (C : Addr) (M : Option Tp) (kws : List Keyword) (env : Env) (Q : List D → Prop) : Prop := AA X C M (wK X kws) env Q
theorem dk_nil {Q : List D → Prop} (q : Q []) : DK X C M [] env Q := fun σ H g s Q' l pos pins sh I => pk_nil.run pos pins sh σ H Q' I (l [] [] H (Keep.refl g) .nil q)
theorem dk_cons {Q : List D → Prop} {nm : Option Str} {kws : List Keyword} (h : DE X C M e env fun d => DK X C M kws env fun ds => Q (d :: ds)) : DK X C M (⟨nm, e, p⟩ :: kws) env Q := fun σ H g s Q' l pos pins sh I =>
  (pk_cons pE pK).run pos pins sh σ H Q' I (h σ H g s _ fun v d H1 k1 r1 h1 => h1 σ H1 k1.good (s.keep k1) _ fun vs ds H2 k2 r2 q => l _ _ H2 (k1.trans k2) (.cons (k2.rp r1) r2) q)
theorem de_mkCfg {Q : D → Prop} {kws : List Keyword} {f : Addr} {fd : FuncData} {mv : List Value} (T : TNew X.K C X.mg f) (F : FnOk X.prog X.w X.K X.mg X.base CX0 1 f fd cfgPs (spCfg C)) (hb : KBn X.K fd cfgPs 2 cfgKs (fun us ws => us ++ (mv ++ ws)) (fun vs zs => vs ++ ([.int 4, .int 2] ++ zs)))
    (hr : Room 2 X.A) (hg : Gl X "Config") (h : DA X C M [e] env fun as => DK X C M kws env fun ds => ∃ (o : D) (g : Cfg), as = [o] ∧ ds = [.int g.lw, .int g.sets, .int g.ways, .int g.reqs, .bl g.alone] ∧ Q (.cfg g))
    (hall : (backToKw pos (keywordEach kws X.env)).all (·.1.isSome) = true := by rfl) (hks : (backToKw pos (keywordEach kws X.env)).filterMap (·.1) = cfgKs := by rfl)
    (he : starEach [e] X.env = [(false, eval e X.env)] := by rfl) (hpl : ((backTo pos (starEach [e] X.env)).any (·.1) || (backToKw pos (keywordEach kws X.env)).any (·.1.isNone)) = false := by rfl) : DE X C M (.Call (.Name "Config" p) [e] kws pos) env Q :=
  de_of (pe_makeK (E := E0) T.made F hr hg T.g hb pass0 pA pK hall hks (by decide) he hpl) fun σ H g s Q' l => h σ H g s _ fun vs as H1 k1 r1 h1 => h1 σ H1 k1.good (s.keep k1) _ fun zs ds H2 k2 r2 ⟨o, gg, e1, e2, q⟩ => by
    subst e1
    subst e2
    cases r1 with
    | @cons v1 _ _ _ ra rb =>
    cases rb
    cases r2 with
    | cons c1 r2 =>
    cases r2 with
    | cons c2 r2 =>
    cases r2 with
    | cons c3 r2 =>
    cases r2 with
    | cons c4 r2 =>
    cases r2 with
    | cons c5 r2 =>
    cases r2; cases c1; cases c2; cases c3; cases c4; cases c5
    refine ⟨rfl, rfl, fun y dx ny ndx hne => ⟨y, dx, v1, .int 4, .int 2, gg, rfl, upd_same, fun H3 ho hy => ⟨rfl, ?_⟩⟩⟩
    have k12 := k1.trans k2
    have ka := Keep.new (M := M) (o := .own y) k12.good ndx
    have ny2 : (upd H2 dx (.own y)) y = none := by rw [upd_ne (Ne.symm hne)]; exact ny
    have kb := Keep.new (M := M) (o := .ins C dx []) ka.good ny2
    have kc := Keep.new (M := M) (o := .ins C dx (cfgFlds v1 (.int 4) (.int 2) gg)) ka.good ny2
    have eH : H3 = upd (upd H2 dx (.own y)) y (.ins C dx (cfgFlds v1 (.int 4) (.int 2) gg)) := by
      funext b
      by_cases hb : b = y
      · subst hb; rw [hy, upd_same]
      · rw [ho b hb, upd_ne hb, upd_ne hb]
    subst eH
    exact l _ _ _ ((k12.trans ka).trans kc) (.cfg upd_same (cfg_flds _ _ _ gg)) q
/-! ### loops over a list of ints -/
theorem ds_forL {E : DEnds} {px : Pos} {body : List Stmt} (i : Nat) (J : Nat → Env → Prop) (hp : PassesOwn (model X.prog X.w) X.A X.env X.xe) (hc : X.calm = true) (hN : X.N.Nodup) (hi : X.N[i]? = some x) (hx : Loc X.env.scope x)
    (h : DE X C M e env fun y => ∃ ns, y = .ilst ns ∧ J 0 env ∧ (∀ j env' n, J j env' → ns[j]? = some n → DSs X C M body (env'.set i (some (.int n))) { nx := J (j + 1), ct := J (j + 1), rt := E.rt, bk := E.nx }) ∧ (∀ env', J ns.length env' → E.nx env'))
    (hf : X.fn x = true ∨ X.env.scope.names.lookup x = some .local := by first | exact .inl rfl | exact .inr rfl) (hs : ∀ x, foldedSetIterable e X.env x = pure x := by intro _; rfl) : DS X C M (.For (.Name x px) e body [] pos) env E :=
  ds_of (ps_for hp hc (pi_list pE) (pg_name hN hi hx hf) pSs hs) fun σ H g s De l => h σ H g s _ fun v y H1 k1 r1 ⟨ns, e, h0, h1, h2⟩ => by
    subst e
    cases r1 with
    | @ilst a' _ hq =>
    refine ⟨a', rfl, ⟨_, hq⟩, for_list (xs := ns.map V.int) (fun j σ' H' => Keep X.K M H1 H' ∧ ∃ env', StR X.K C H' σ' env' ∧ J j env') ⟨Keep.refl k1.good, env, s.keep k1, h0⟩ (fun j σ' H' _ ⟨k, _⟩ => k.sqL hq (ints_no ns)) (fun j z σ' H' hz ⟨k, env', s', hJ⟩ => ?_) (fun σ' H' ⟨k, env', s', hJ⟩ => ?_)⟩
    · rw [List.getElem?_map, Option.map_eq_some_iff] at hz
      obtain ⟨n, hn, rfl⟩ := hz
      exact h1 j env' n hJ hn _ H' k.good (s'.set i (.int n)) _ ⟨fun σ2 e2 H2 k2 s2 q => ⟨k.trans k2, e2, s2, q⟩, fun v d H2 k2 r q => l.rt v d H2 ((k1.trans k).trans k2) r q, fun σ2 e2 H2 k2 s2 q => l.nx σ2 e2 H2 ((k1.trans k).trans k2) s2 q, fun σ2 e2 H2 k2 s2 q => ⟨k.trans k2, e2, s2, q⟩⟩
    · rw [List.length_map] at hJ
      exact l.nx σ' env' H' (k1.trans k) s' (h2 env' hJ)
end
end WK
set_option maxRecDepth 100000
set_option maxHeartbeats 4000000
namespace WK
open PySem PySem.Spec PyProof.Rows L2
open LK (S3 MK Msg Cfg Cache Serv Home Sys)
section
variable {P : Program} {w : World} {K : PySem.W.Frag} {mg : Str → Option Value} {base : Heap} {C : Addr}
def thenB : Stmt → List Stmt
  | .If _ a _ _ => a
  | _ => []
/-! ### _law_draw -/
theorem v30__law_tape_here : VarOk (defScope (topS 30)) "_law_tape_here" := ⟨.inl rfl, by decide, by decide⟩
theorem v30__law_many : VarOk (defScope (topS 30)) "_law_many" := ⟨.inl rfl, by decide, by decide⟩
theorem v30__law_place : VarOk (defScope (topS 30)) "_law_place" := ⟨.inl rfl, by decide, by decide⟩
theorem v30__law_number : VarOk (defScope (topS 30)) "_law_number" := ⟨.inl rfl, by decide, by decide⟩
theorem sc_law_draw : FnScope ["_law_tape_here", "_law_many", "_law_place", "_law_number"] ["_law_tape_here", "_law_many"] (defScope (topS 30)) := ⟨rfl, rfl, rfl, by decide +kernel, rfl, by decide +kernel, by decide +kernel⟩
def sdDraw : Sd := fun ds R => ∃ m : Nat, ds = [.int m] ∧ m ≤ 100000 ∧ ∀ n : Nat, n < max m 1 → R (.int n)
theorem ok_law_draw {f : Addr} {fd : FuncData} (D1 : Dfn K mg "_law_draw" (topS 30) ["_law_tape_here", "_law_many"] f fd) (T : TCfg K C mg) : Has P w K mg base 1 "_law_draw" ["_law_tape_here", "_law_many"] (SpT K C sdDraw) := by
  refine has_of D1 (fn_tape D1.F sc_law_draw (fun ds R ⟨_, e, _⟩ => by rw [e]; rfl) fun cdv A outer s H E u ds R hr ⟨m, eq, hm, hR⟩ => ?_)
  subst eq
  have last : ∀ z : Int, R (.int (z % (if (1 : Int) > (m : Int) then 1 else (m : Int)))) := fun z => by
    have hM : (if (1 : Int) > (m : Int) then 1 else (m : Int)) = ((max m 1 : Nat) : Int) := by split <;> omega
    rw [hM]
    have h0 : (0 : Int) < ((max m 1 : Nat) : Int) := by omega
    have h1 := Int.emod_nonneg z (Int.ne_of_gt h0)
    have h2 := Int.emod_lt_of_pos z h0
    have h3 := hR (z % ((max m 1 : Nat) : Int)).toNat (by omega)
    rw [Int.toNat_of_nonneg h1] at h3
    exact h3
  have fin : ∀ {d2 d3 : Option D}, DSs (cxOf CX0 P w K mg base ["_law_tape_here", "_law_many", "_law_place", "_law_number"] "_law_draw" (defScope (topS 30)) f cdv A outer s H E).nox C (some u) ((defBody (topS 30)).drop 1) [some (.adr u.a), some (.int m), d2, d3] ⟨fun _ => R .non, R, fun _ => False, fun _ => False⟩ := fun {d2 d3} => by
    refine dss_cons (ds_set 3 sc_law_draw.nd rfl (.inl rfl) (tp_read 0 2 rfl rfl v30__law_tape_here (fun a1 n1 t1 ha1 hn1 ht1 hu1 => ⟨_, rfl, (dss_env (env' := [_, _, _, _]) rfl ?_)⟩)))
    refine dss_cons (tp_write 0 2 rfl rfl v30__law_tape_here (by decide) (de_fdiv (de_v 3 rfl rfl v30__law_number (de_max rfl rfl T.no_max (de_v 1 rfl rfl v30__law_many (de_int ⟨_, _, rfl, rfl, ⟨_, _, rfl, rfl, ⟨by split <;> omega, by split <;> omega⟩, ⟨_, rfl, Int.ediv_nonneg (by assumption) (by split <;> omega), fun q => absurd q (by decide), ?_⟩⟩⟩))))))
    exact dss_cons (ds_ret (de_mod (de_intc rfl T.no_int (de_v 3 rfl rfl v30__law_number ⟨_, rfl, (de_max rfl rfl T.no_max (de_v 1 rfl rfl v30__law_many (de_int ⟨_, _, rfl, rfl, ⟨_, _, rfl, rfl, by first | omega | (split <;> omega), (last _)⟩⟩)))⟩))))
  have mid : ∀ {pl nu : Int}, 0 ≤ pl → 0 ≤ nu → DSs (cxOf CX0 P w K mg base ["_law_tape_here", "_law_many", "_law_place", "_law_number"] "_law_draw" (defScope (topS 30)) f cdv A outer s H E).nox C (some u) ((thenB ((defBody (topS 30)).getD 0 (.Pass ⟨0, 0, 0, 0⟩))).drop 3) [some (.adr u.a), some (.int m), some (.int pl), some (.int nu)] { nx := fun env' => DSs (cxOf CX0 P w K mg base ["_law_tape_here", "_law_many", "_law_place", "_law_number"] "_law_draw" (defScope (topS 30)) f cdv A outer s H E).nox C (some u) ((defBody (topS 30)).drop 1) env' ⟨fun _ => R .non, R, fun _ => False, fun _ => False⟩, rt := R, bk := fun _ => False, ct := fun _ => False } := fun {pl nu} hpl hnu => by
    refine dss_cons (tp_write 0 1 rfl rfl v30__law_tape_here (by decide) (de_add (de_v 2 rfl rfl v30__law_place (de_int ⟨_, _, rfl, rfl, ⟨_, rfl, by omega, fun q => absurd q (by decide), ?_⟩⟩))))
    refine dss_cons (ds_if (dt_lt (de_v 3 rfl rfl v30__law_number (de_pow (de_int (de_int ⟨_, _, rfl, rfl, ⟨by omega, by omega, by decide⟩, ⟨_, _, rfl, rfl, ?_⟩⟩))))))
    cases hd : decide (nu < 10 ^ (18 : Int).toNat) with
    | true =>
      rw [if_pos rfl]
      refine dss_cons (ds_set 3 sc_law_draw.nd rfl (.inl rfl) (de_mod (de_intc rfl T.no_int (de_add (de_add (de_mul (de_v 3 rfl rfl v30__law_number (de_int ⟨_, _, rfl, rfl, .inr ⟨by omega, by omega⟩, (de_mul (de_v 2 rfl rfl v30__law_place (de_int ⟨_, _, rfl, rfl, .inr ⟨by omega, by omega⟩, ⟨_, _, rfl, rfl, (de_int ⟨_, _, rfl, rfl, ⟨_, rfl, (de_int ⟨_, _, rfl, rfl, by first | omega | (split <;> omega), (dss_env (env' := [_, _, _, _]) rfl ?_)⟩)⟩⟩)⟩⟩)))⟩))))))))
      refine dss_cons (ds_set 3 sc_law_draw.nd rfl (.inl rfl) (de_mod (de_intc rfl T.no_int (de_mul (de_v 3 rfl rfl v30__law_number (de_int ⟨_, _, rfl, rfl, .inr ⟨by omega, by omega⟩, ⟨_, rfl, (de_int ⟨_, _, rfl, rfl, by first | omega | (split <;> omega), (dss_env (env' := [_, _, _, _]) rfl ?_)⟩)⟩⟩))))))
      exact dss_cons (ds_ret (de_mod (de_intc rfl T.no_int (de_v 3 rfl rfl v30__law_number ⟨_, rfl, (de_max rfl rfl T.no_max (de_v 1 rfl rfl v30__law_many (de_int ⟨_, _, rfl, rfl, ⟨_, _, rfl, rfl, by first | omega | (split <;> omega), (last _)⟩⟩)))⟩))))
    | false =>
      rw [if_neg (by decide)]
      refine dss_nil ?_
      refine dss_cons (tp_write 0 2 rfl rfl v30__law_tape_here (by decide) (de_v 3 rfl rfl v30__law_number ⟨_, rfl, hnu, fun q => absurd q (by decide), ?_⟩))
      refine dss_nil ?_
      exact fin
  refine dss_env (env' := [_, _, _, _]) rfl ?_
  refine dss_cons (ds_if (dt_eq (tp_read 0 2 rfl rfl v30__law_tape_here (fun a2 n2 t2 ha2 hn2 ht2 hu2 => ⟨_, rfl, (de_int ⟨_, rfl, ?_⟩)⟩))))
  split
  · refine dss_cons (ds_set 2 sc_law_draw.nd rfl (.inl rfl) (tp_read 0 1 rfl rfl v30__law_tape_here (fun a3 n3 t3 ha3 hn3 ht3 hu3 => ⟨_, rfl, (dss_env (env' := [_, _, _, _]) rfl ?_)⟩)))
    have hpl := ha3
    refine dss_cons (ds_set 3 sc_law_draw.nd rfl (.inl rfl) (de_int (dss_env (env' := [_, _, _, _]) rfl ?_)))
    refine dss_cons (ds_if (dt_lt (de_v 2 rfl rfl v30__law_place (de_len rfl T.no_len (tp_read 0 0 rfl rfl v30__law_tape_here (fun a4 n4 t4 ha4 hn4 ht4 hu4 => ⟨_, rfl, ⟨_, rfl, ⟨_, _, rfl, rfl, ?_⟩⟩⟩))))))
    split
    · rename_i hlt
      have hlt := of_decide_eq_true hlt
      obtain ⟨v, hv⟩ : ∃ v, itemD (.ilst u.xs) a3 = some (.int v) := by
        unfold itemD
        simp only
        rw [if_pos hpl]
        exact ⟨u.xs[a3.toNat]'(by omega), by rw [List.getElem?_eq_getElem (by omega)]; rfl⟩
      refine dss_cons (ds_set 3 sc_law_draw.nd rfl (.inl rfl) (de_abs rfl T.no_abs (de_intc rfl T.no_int (de_ix (tp_read 0 0 rfl rfl v30__law_tape_here (fun a5 n5 t5 ha5 hn5 ht5 hu5 => ⟨_, rfl, (de_v 2 rfl rfl v30__law_place ⟨_, _, rfl, hv, ⟨_, rfl, ⟨_, rfl, (dss_env (env' := [_, _, _, _]) rfl ?_)⟩⟩⟩)⟩))))))
      refine dss_nil ?_
      exact mid hpl (by split <;> omega)
    · refine dss_cons (tp_write 0 3 rfl rfl v30__law_tape_here (by decide) (de_mod (de_intc rfl T.no_int (de_add (de_add (de_mul (tp_read 0 3 rfl rfl v30__law_tape_here (fun a6 n6 t6 ha6 hn6 ht6 hu6 => ⟨_, rfl, (de_int ⟨_, _, rfl, rfl, .inr ⟨by omega, by omega⟩, (de_v 2 rfl rfl v30__law_place ⟨_, _, rfl, rfl, (de_int ⟨_, _, rfl, rfl, ⟨_, rfl, (de_int ⟨_, _, rfl, rfl, by first | omega | (split <;> omega), ⟨_, rfl, Int.emod_nonneg _ (by decide), fun _ => Int.emod_lt_of_pos _ (by decide), ?_⟩⟩)⟩⟩)⟩)⟩)⟩))))))))
      refine dss_cons (ds_set 3 sc_law_draw.nd rfl (.inl rfl) (tp_read 0 3 rfl rfl v30__law_tape_here (fun a7 n7 t7 ha7 hn7 ht7 hu7 => ⟨_, rfl, (dss_env (env' := [_, _, _, _]) rfl ?_)⟩)))
      refine dss_nil ?_
      exact mid hpl (by assumption)
  · refine dss_nil ?_
    exact fin
end
end WK
set_option maxRecDepth 100000
set_option maxHeartbeats 4000000
namespace WK
open PySem PySem.Spec PyProof.Rows L2
open LK (S3 MK Msg Cfg Cache Serv Home Sys)
section
variable {P : Program} {w : World} {K : PySem.W.Frag} {mg : Str → Option Value} {base : Heap} {C : Addr}
/-! ### _law_world -/
theorem v31__law_tape_here : VarOk (defScope (topS 31)) "_law_tape_here" := ⟨.inl rfl, by decide, by decide⟩
theorem v31__law_cores : VarOk (defScope (topS 31)) "_law_cores" := ⟨.inl rfl, by decide, by decide⟩
theorem v31__law_size : VarOk (defScope (topS 31)) "_law_size" := ⟨.inl rfl, by decide, by decide⟩
theorem v31__law_width : VarOk (defScope (topS 31)) "_law_width" := ⟨.inl rfl, by decide, by decide⟩
theorem v31__law_many_sets : VarOk (defScope (topS 31)) "_law_many_sets" := ⟨.inl rfl, by decide, by decide⟩
theorem v31__law_many_ways : VarOk (defScope (topS 31)) "_law_many_ways" := ⟨.inl rfl, by decide, by decide⟩
theorem v31__law_many_requests : VarOk (defScope (topS 31)) "_law_many_requests" := ⟨.inl rfl, by decide, by decide⟩
theorem v31__law_alone : VarOk (defScope (topS 31)) "_law_alone" := ⟨.inl rfl, by decide, by decide⟩
theorem sc_law_world : FnScope ["_law_tape_here", "_law_cores", "_law_size", "_law_width", "_law_many_sets", "_law_many_ways", "_law_many_requests", "_law_alone"] ["_law_tape_here"] (defScope (topS 31)) := ⟨rfl, rfl, rfl, by decide +kernel, rfl, by decide +kernel, by decide +kernel⟩
/-- what a law's world says -/
structure Wd where
  c : Nat
  sz : Nat
  wd : Nat
  st : Nat
  wy : Nat
  rq : Nat
  al : Bool
def Wd.my (W : Wd) : Nat := (W.sz + W.wd - 1) / W.wd
def Wd.g (W : Wd) : Cfg := ⟨W.wd, W.st, W.wy, W.rq, W.al⟩
structure WOk (W : Wd) : Prop where
  c : 1 ≤ W.c ∧ W.c ≤ 4
  sz : 1 ≤ W.sz ∧ W.sz ≤ 16
  wd : 1 ≤ W.wd ∧ W.wd ≤ 16
  st : 1 ≤ W.st ∧ W.st ≤ 8
  wy : 1 ≤ W.wy ∧ W.wy ≤ 16
  rq : 1 ≤ W.rq ∧ W.rq ≤ 3
theorem WOk.my {W : Wd} (h : WOk W) : 1 ≤ W.my ∧ W.my ≤ 16 := by
  unfold Wd.my
  constructor
  · rw [Nat.le_div_iff_mul_le (by have := h.wd; omega)]
    have := h.sz; omega
  · have h1 : W.sz + W.wd - 1 ≤ 16 * W.wd := by
      have h2 := h.sz; have h3 := h.wd
      omega
    exact Nat.le_trans (Nat.div_le_div_right h1) (by rw [Nat.mul_div_cancel _ (by have := h.wd; omega)]; exact Nat.le_refl _)
theorem WOk.g {W : Wd} (h : WOk W) : CfgOk W.g := ⟨h.wd.1, h.st.1, h.wy.1, h.rq.1⟩
def worldD (W : Wd) : D := .tup [.int W.c, .int W.sz, .int W.wd, .int W.my, .tup [.int W.st, .int W.wy, .int W.rq], .bl W.al]
theorem pick_nat {xs : List Nat} {n lo hi : Nat} (hn : n < xs.length) (h : ∀ x, x ∈ xs → lo ≤ x ∧ x ≤ hi) : ∃ k : Nat, (lo ≤ k ∧ k ≤ hi) ∧ (xs.map natD)[n]? = some (.int k) := ⟨xs[n], h _ (List.getElem_mem hn), by rw [List.getElem?_map, List.getElem?_eq_getElem hn]; rfl⟩
def sdWorld : Sd := fun ds R => ds = [] ∧ ∀ W, WOk W → R (worldD W)
theorem ok_law_world {f : Addr} {fd : FuncData} (D1 : Dfn K mg "_law_world" (topS 31) ["_law_tape_here"] f fd) (T : TCfg K C mg) (h__law_draw : Has P w K mg base 1 "_law_draw" ["_law_tape_here", "_law_many"] (SpT K C sdDraw)) : Has P w K mg base 2 "_law_world" ["_law_tape_here"] (SpT K C sdWorld) := by
  refine has_of D1 (fn_tape D1.F sc_law_world (fun ds R ⟨e, _⟩ => by rw [e]; rfl) fun cdv A outer s H E u ds R hr ⟨eq, hR⟩ => ?_)
  subst eq
  refine dss_env (env' := [_, _, _, _, _, _, _, _]) rfl ?_
  refine dss_cons (ds_set 1 sc_law_world.nd rfl (.inl rfl) (de_disp (da_cons (de_int (da_cons (de_int (da_cons (de_int (da_cons (de_int (da_cons (de_int (da_cons (de_int (da_nil ⟨Nat.le_of_ble_eq_true rfl, (de_callHT h__law_draw (hr.mono (by decide)) rfl (da_cons (de_v 0 rfl rfl v31__law_tape_here (da_cons (de_int (da_nil ⟨_, rfl, 6, rfl, by omega, fun n3 h3 => ?_⟩))))))⟩)))))))))))))))
  obtain ⟨c, hc, e_c⟩ := pick_nat (xs := [1, 2, 2, 3, 3, 4]) (lo := 1) (hi := 4) h3 (by intro x hx; simp only [List.mem_cons, List.not_mem_nil, or_false] at hx; omega)
  refine ⟨_, _, rfl, by omega, (by rw [Int.toNat_natCast]; exact e_c), ?_⟩
  refine dss_env (env' := [_, _, _, _, _, _, _, _]) rfl ?_
  refine dss_cons (ds_set 2 sc_law_world.nd rfl (.inl rfl) (de_add (de_int (de_disp (da_cons (de_callHT h__law_draw (hr.mono (by decide)) rfl (da_cons (de_v 0 rfl rfl v31__law_tape_here (da_cons (de_int (da_nil ⟨_, rfl, 4, rfl, by omega, fun n6 h6 => (da_cons (de_callHT h__law_draw (hr.mono (by decide)) rfl (da_cons (de_v 0 rfl rfl v31__law_tape_here (da_cons (de_int (da_nil ⟨_, rfl, 16, rfl, by omega, fun n5 h5 => (da_nil ⟨Nat.le_of_ble_eq_true rfl, (de_callHT h__law_draw (hr.mono (by decide)) rfl (da_cons (de_v 0 rfl rfl v31__law_tape_here (da_cons (de_int (da_nil ⟨_, rfl, 2, rfl, by omega, fun n4 h4 => ?_⟩))))))⟩)⟩)))))))⟩)))))))))))
  obtain ⟨sz0, hsz, e2⟩ := pick_nat (xs := [n6, n5]) (lo := 0) (hi := 15) h4 (by intro x hx; simp only [List.mem_cons, List.not_mem_nil, or_false] at hx; omega)
  refine ⟨_, _, rfl, by omega, (by rw [Int.toNat_natCast]; exact e2), _, _, rfl, rfl, ?_⟩
  have c2 : (1 : Int) + (sz0 : Int) = ((1 + sz0 : Nat) : Int) := by omega
  rw [c2]
  generalize hszd : 1 + sz0 = sz
  refine dss_env (env' := [_, _, _, _, _, _, _, _]) rfl ?_
  refine dss_cons (ds_set 3 sc_law_world.nd rfl (.inl rfl) (de_disp (da_cons (de_int (da_cons (de_int (da_cons (de_int (da_cons (de_add (de_int (de_callHT h__law_draw (hr.mono (by decide)) rfl (da_cons (de_v 0 rfl rfl v31__law_tape_here (da_cons (de_int (da_nil ⟨_, rfl, 16, rfl, by omega, fun n12 h12 => ⟨_, _, rfl, rfl, (da_nil ⟨Nat.le_of_ble_eq_true rfl, (de_callHT h__law_draw (hr.mono (by decide)) rfl (da_cons (de_v 0 rfl rfl v31__law_tape_here (da_cons (de_int (da_nil ⟨_, rfl, 4, rfl, by omega, fun n11 h11 => ?_⟩))))))⟩)⟩⟩)))))))))))))))))
  obtain ⟨wd, hwd, e_wd⟩ := pick_nat (xs := [1, 1, 2, 1 + n12]) (lo := 1) (hi := 16) h11 (by intro x hx; simp only [List.mem_cons, List.not_mem_nil, or_false] at hx; omega)
  refine ⟨_, _, rfl, by omega, (by rw [Int.toNat_natCast]; exact e_wd), ?_⟩
  refine dss_env (env' := [_, _, _, _, _, _, _, _]) rfl ?_
  refine dss_cons (ds_set 4 sc_law_world.nd rfl (.inl rfl) (de_disp (da_cons (de_int (da_cons (de_int (da_cons (de_int (da_cons (de_add (de_int (de_callHT h__law_draw (hr.mono (by decide)) rfl (da_cons (de_v 0 rfl rfl v31__law_tape_here (da_cons (de_int (da_nil ⟨_, rfl, 8, rfl, by omega, fun n18 h18 => ⟨_, _, rfl, rfl, (da_nil ⟨Nat.le_of_ble_eq_true rfl, (de_callHT h__law_draw (hr.mono (by decide)) rfl (da_cons (de_v 0 rfl rfl v31__law_tape_here (da_cons (de_int (da_nil ⟨_, rfl, 4, rfl, by omega, fun n17 h17 => ?_⟩))))))⟩)⟩⟩)))))))))))))))))
  obtain ⟨st, hst, e_st⟩ := pick_nat (xs := [1, 1, 2, 1 + n18]) (lo := 1) (hi := 8) h17 (by intro x hx; simp only [List.mem_cons, List.not_mem_nil, or_false] at hx; omega)
  refine ⟨_, _, rfl, by omega, (by rw [Int.toNat_natCast]; exact e_st), ?_⟩
  refine dss_env (env' := [_, _, _, _, _, _, _, _]) rfl ?_
  refine dss_cons (ds_set 5 sc_law_world.nd rfl (.inl rfl) (de_disp (da_cons (de_int (da_cons (de_int (da_cons (de_add (de_int (de_callHT h__law_draw (hr.mono (by decide)) rfl (da_cons (de_v 0 rfl rfl v31__law_tape_here (da_cons (de_int (da_nil ⟨_, rfl, 16, rfl, by omega, fun n24 h24 => ⟨_, _, rfl, rfl, (da_nil ⟨Nat.le_of_ble_eq_true rfl, (de_callHT h__law_draw (hr.mono (by decide)) rfl (da_cons (de_v 0 rfl rfl v31__law_tape_here (da_cons (de_int (da_nil ⟨_, rfl, 3, rfl, by omega, fun n23 h23 => ?_⟩))))))⟩)⟩⟩)))))))))))))))
  obtain ⟨wy, hwy, e_wy⟩ := pick_nat (xs := [1, 2, 1 + n24]) (lo := 1) (hi := 16) h23 (by intro x hx; simp only [List.mem_cons, List.not_mem_nil, or_false] at hx; omega)
  refine ⟨_, _, rfl, by omega, (by rw [Int.toNat_natCast]; exact e_wy), ?_⟩
  refine dss_env (env' := [_, _, _, _, _, _, _, _]) rfl ?_
  refine dss_cons (ds_set 6 sc_law_world.nd rfl (.inl rfl) (de_add (de_int (de_callHT h__law_draw (hr.mono (by decide)) rfl (da_cons (de_v 0 rfl rfl v31__law_tape_here (da_cons (de_int (da_nil ⟨_, rfl, 3, rfl, by omega, fun n25 h25 => ⟨_, _, rfl, rfl, (dss_env (env' := [_, _, _, _, _, _, _, _]) rfl ?_)⟩⟩)))))))))
  have c6 : (1 : Int) + (n25 : Int) = ((1 + n25 : Nat) : Int) := by omega
  rw [c6]
  generalize hrq : 1 + n25 = rq
  have hrq2 : 1 ≤ rq ∧ rq ≤ 3 := by omega
  refine dss_env (env' := [_, _, _, _, _, _, _, _]) rfl ?_
  refine dss_cons (ds_set 7 sc_law_world.nd rfl (.inl rfl) (de_eq (de_callHT h__law_draw (hr.mono (by decide)) rfl (da_cons (de_v 0 rfl rfl v31__law_tape_here (da_cons (de_int (da_nil ⟨_, rfl, 2, rfl, by omega, fun n26 h26 => (de_int ⟨_, rfl, (dss_env (env' := [_, _, _, _, _, _, _, _]) rfl ?_)⟩)⟩))))))))
  generalize decide ((n26 : Int) = 1) = al
  refine dss_env (env' := [_, _, _, _, _, _, _, _]) rfl ?_
  refine dss_cons (ds_ret (de_tup (da_cons (de_v 1 rfl rfl v31__law_cores (da_cons (de_v 2 rfl rfl v31__law_size (da_cons (de_v 3 rfl rfl v31__law_width (da_cons (de_fdiv (de_sub (de_add (de_v 2 rfl rfl v31__law_size (de_v 3 rfl rfl v31__law_width ⟨_, _, rfl, rfl, (de_int ⟨_, _, rfl, rfl, (de_v 3 rfl rfl v31__law_width ⟨_, _, rfl, rfl, ⟨by omega, by omega⟩, (da_cons (de_tup (da_cons (de_v 4 rfl rfl v31__law_many_sets (da_cons (de_v 5 rfl rfl v31__law_many_ways (da_cons (de_v 6 rfl rfl v31__law_many_requests (da_nil ⟨Nat.le_of_ble_eq_true rfl, (da_cons (de_v 7 rfl rfl v31__law_alone (da_nil ⟨Nat.le_of_ble_eq_true rfl, ?_⟩)))⟩)))))))))⟩)⟩)⟩))))))))))))))
  have hW := hR ⟨c, sz, wd, st, wy, rq, al⟩ ⟨hc, by show 1 ≤ sz ∧ sz ≤ 16; omega, hwd, hst, hwy, hrq2⟩
  have e9 : ((sz : Int) + (wd : Int) - 1) / (wd : Int) = (((sz + wd - 1) / wd : Nat) : Int) := by
    rw [Int.natCast_ediv]
    congr 1
    omega
  rw [e9]
  exact hW
end
end WK
set_option maxRecDepth 100000
set_option maxHeartbeats 4000000
namespace WK
open PySem PySem.Spec PyProof.Rows L2
open LK (S3 MK Msg Cfg Cache Serv Home Sys)
section
variable {P : Program} {w : World} {K : PySem.W.Frag} {mg : Str → Option Value} {base : Heap} {C : Addr}
/-! ### _law_config -/
theorem v32__law_tape_here : VarOk (defScope (topS 32)) "_law_tape_here" := ⟨.inl rfl, by decide, by decide⟩
theorem v32__law_world_here : VarOk (defScope (topS 32)) "_law_world_here" := ⟨.inl rfl, by decide, by decide⟩
theorem v32__law_bounds : VarOk (defScope (topS 32)) "_law_bounds" := ⟨.inl rfl, by decide, by decide⟩
theorem v32__law_order : VarOk (defScope (topS 32)) "_law_order" := ⟨.inl rfl, by decide, by decide⟩
theorem sc_law_config : FnScope ["_law_tape_here", "_law_world_here", "_law_bounds", "_law_order"] ["_law_tape_here", "_law_world_here"] (defScope (topS 32)) := ⟨rfl, rfl, rfl, by decide +kernel, rfl, by decide +kernel, by decide +kernel⟩
def sdConf : Sd := fun ds R => ∃ W : Wd, ds = [worldD W] ∧ R (.cfg W.g)
theorem ok_law_config {f fi : Addr} {fd fdi : FuncData} {mv : List Value} (D1 : Dfn K mg "_law_config" (topS 32) ["_law_tape_here", "_law_world_here"] f fd) (T : TCfg K C mg) (N : TNew K C mg fi) (F : FnOk P w K mg base CX0 1 fi fdi cfgPs (spCfg C)) (hb : KBn K fdi cfgPs 2 cfgKs (fun us ws => us ++ (mv ++ ws)) (fun vs zs => vs ++ ([.int 4, .int 2] ++ zs))) (h__law_draw : Has P w K mg base 1 "_law_draw" ["_law_tape_here", "_law_many"] (SpT K C sdDraw)) : Has P w K mg base 3 "_law_config" ["_law_tape_here", "_law_world_here"] (SpT K C sdConf) := by
  refine has_of D1 (fn_tape D1.F sc_law_config (fun ds R ⟨_, e, _⟩ => by rw [e]; rfl) fun cdv A outer s H E u ds R hr ⟨W, eq, hR⟩ => ?_)
  subst eq
  refine dss_env (env' := [_, _, _, _]) rfl ?_
  refine dss_cons (ds_set 2 sc_law_config.nd rfl (.inl rfl) (de_ix (de_v 1 rfl rfl v32__law_world_here (de_int ⟨_, _, rfl, rfl, (dss_env (env' := [_, _, _, _]) rfl ?_)⟩))))
  refine dss_cons (ds_set 3 sc_law_config.nd rfl (.inl rfl) (de_disp (da_cons (de_str (da_cons (de_str (da_cons (de_str (da_cons (de_str (da_nil ⟨Nat.le_of_ble_eq_true rfl, (de_callHT h__law_draw (hr.mono (by decide)) rfl (da_cons (de_v 0 rfl rfl v32__law_tape_here (da_cons (de_int (da_nil ⟨_, rfl, 4, rfl, by first | omega | (simp only [List.length_map]; omega), fun n1 h1 => ?_⟩))))))⟩)))))))))))
  have ho : ∃ d, ([D.str "sc", .str "tso", .str "pso", .str "wmm"] : List D)[n1]? = some d := ⟨_, List.getElem?_eq_getElem (by show n1 < 4; omega)⟩
  obtain ⟨d, hd⟩ := ho
  refine ⟨_, _, rfl, by omega, (by rw [Int.toNat_natCast]; exact hd), ?_⟩
  refine dss_env (env' := [_, _, _, _]) rfl ?_
  exact dss_cons (ds_ret (de_mkCfg N F hb hr rfl (da_cons (de_v 3 rfl rfl v32__law_order (da_nil (dk_cons (de_ix (de_v 1 rfl rfl v32__law_world_here (de_int ⟨_, _, rfl, rfl, (dk_cons (de_ix (de_v 2 rfl rfl v32__law_bounds (de_int ⟨_, _, rfl, rfl, (dk_cons (de_ix (de_v 2 rfl rfl v32__law_bounds (de_int ⟨_, _, rfl, rfl, (dk_cons (de_ix (de_v 2 rfl rfl v32__law_bounds (de_int ⟨_, _, rfl, rfl, (dk_cons (de_ix (de_v 1 rfl rfl v32__law_world_here (de_int ⟨_, _, rfl, rfl, (dk_nil ⟨d, W.g, rfl, rfl, hR⟩)⟩))))⟩))))⟩))))⟩))))⟩)))))))))
/-! ### _law_fresh -/
theorem v33__law_tape_here : VarOk (defScope (topS 33)) "_law_tape_here" := ⟨.inl rfl, by decide, by decide⟩
theorem v33__law_many : VarOk (defScope (topS 33)) "_law_many" := ⟨.inl rfl, by decide, by decide⟩
theorem sc_law_fresh : FnScope ["_law_tape_here", "_law_many", "_law_words", "_law_k"] ["_law_tape_here", "_law_many"] (defScope (topS 33)) := ⟨rfl, rfl, rfl, by decide +kernel, rfl, by decide +kernel, by decide +kernel⟩
def sdFresh : Sd := fun ds R => ∃ m : Nat, ds = [.int m] ∧ m ≤ 1000 ∧ ∀ xs : List D, xs.length = m → R (.tup xs)
theorem solids_app {xs : List D} {d : D} (h : D.solids xs = true) (h2 : d.solid = true) : D.solids (xs ++ [d]) = true := by
  induction xs with
  | nil => show (d.solid && true) = true; rw [h2]; rfl
  | cons x xs ih =>
    have h3 : (x.solid && D.solids xs) = true := h
    rw [Bool.and_eq_true] at h3
    show (x.solid && D.solids (xs ++ [d])) = true
    rw [h3.1, ih h3.2]; rfl
theorem ok_law_fresh {f : Addr} {fd : FuncData} (D1 : Dfn K mg "_law_fresh" (topS 33) ["_law_tape_here", "_law_many"] f fd) (T : TCfg K C mg) (h__law_draw : Has P w K mg base 1 "_law_draw" ["_law_tape_here", "_law_many"] (SpT K C sdDraw)) : Has P w K mg base 2 "_law_fresh" ["_law_tape_here", "_law_many"] (SpT K C sdFresh) := by
  refine has_of D1 (fn_tape D1.F sc_law_fresh (fun ds R ⟨_, e, _⟩ => by rw [e]; rfl) fun cdv A outer s H E u ds R hr ⟨m, eq, hm, hR⟩ => ?_)
  subst eq
  refine dss_env (env' := [_, _, _, _]) rfl ?_
  refine dss_build 2 sc_law_fresh.nd rfl rfl rfl T.no_tuple rfl ?_
  refine bs_forR 3 (fun t env' ds' => (∃ d, env' = [some (.adr u.a), some (.int m), none, d]) ∧ ds'.length = t ∧ D.solids ds' = true) PassesOwn.never rfl sc_law_fresh.nd rfl (by decide) (.inl rfl) rfl T.no_range (de_v 1 rfl rfl v33__law_many ⟨m, rfl, by omega, ⟨⟨_, rfl⟩, rfl, rfl⟩, ?_, ?_⟩)
  · intro t env' ds' ht ⟨⟨d, he⟩, hl, hs⟩
    subst he
    have sol : envSolid [some (D.adr u.a), some (.int m), none, some (.int t)] := fun d hd => by
      simp only [List.mem_cons, Option.some.injEq, List.not_mem_nil, or_false, reduceCtorEq, false_or] at hd
      rcases hd with rfl | rfl | rfl <;> rfl
    refine bs_env (env' := [_, _, _, _]) rfl ?_
    refine bss_cons (bs_if (dt_eq (de_callHT h__law_draw (hr.mono (by decide)) rfl (da_cons (de_v 0 rfl rfl v33__law_tape_here (da_cons (de_int (da_nil ⟨_, rfl, 4, rfl, by first | omega | (simp only [List.length_map]; omega), fun n2 h2 => (de_int ⟨_, rfl, ?_⟩)⟩))))))))
    split
    · refine bss_cons (bs_append rfl (.inl rfl) sol hs (by omega) (de_disp (da_cons (de_int (da_cons (de_int (da_cons (de_int (da_cons (de_int (da_nil ⟨Nat.le_of_ble_eq_true rfl, (de_callHT h__law_draw (hr.mono (by decide)) rfl (da_cons (de_v 0 rfl rfl v33__law_tape_here (da_cons (de_int (da_nil ⟨_, rfl, 4, rfl, by first | omega | (simp only [List.length_map]; omega), fun n3 h3 => ?_⟩))))))⟩)))))))))))
      have ho : ∃ v : Int, ([D.int 0, .int 1, .int 32768, .int 65535] : List D)[n3]? = some (.int v) := by
        have hlt : n3 < 4 := by omega
        match n3, hlt with
        | 0, _ => exact ⟨_, rfl⟩
        | 1, _ => exact ⟨_, rfl⟩
        | 2, _ => exact ⟨_, rfl⟩
        | 3, _ => exact ⟨_, rfl⟩
      obtain ⟨v, hv⟩ := ho
      refine ⟨_, _, rfl, by omega, (by rw [Int.toNat_natCast]; exact hv), ?_⟩
      refine ⟨rfl, bss_nil (bss_nil ⟨⟨_, rfl⟩, by rw [List.length_append, hl]; rfl, solids_app hs rfl⟩)⟩
    · refine bss_cons (bs_append rfl (.inl rfl) sol hs (by omega) (de_callHT h__law_draw (hr.mono (by decide)) rfl (da_cons (de_v 0 rfl rfl v33__law_tape_here (da_cons (de_int (da_nil ⟨_, rfl, 65536, rfl, by first | omega | (simp only [List.length_map]; omega), fun n4 h4 => ?_⟩)))))))
      refine ⟨rfl, bss_nil (bss_nil ⟨⟨_, rfl⟩, by rw [List.length_append, hl]; rfl, solids_app hs rfl⟩)⟩
  · intro env' ds' ⟨_, hl, _⟩
    exact hR ds' hl
/-! ### _law_action -/
theorem v34__law_tape_here : VarOk (defScope (topS 34)) "_law_tape_here" := ⟨.inl rfl, by decide, by decide⟩
theorem v34__law_system : VarOk (defScope (topS 34)) "_law_system" := ⟨.inl rfl, by decide, by decide⟩
theorem v34__law_world_here : VarOk (defScope (topS 34)) "_law_world_here" := ⟨.inl rfl, by decide, by decide⟩
theorem v34__law_choice : VarOk (defScope (topS 34)) "_law_choice" := ⟨.inl rfl, by decide, by decide⟩
theorem v34__law_core : VarOk (defScope (topS 34)) "_law_core" := ⟨.inl rfl, by decide, by decide⟩
theorem v34__law_line : VarOk (defScope (topS 34)) "_law_line" := ⟨.inl rfl, by decide, by decide⟩
theorem v34__law_lines : VarOk (defScope (topS 34)) "_law_lines" := ⟨.inl rfl, by decide, by decide⟩
theorem sc_law_action : FnScope ["_law_tape_here", "_law_system", "_law_world_here", "_law_choice", "_law_core", "_law_line", "_law_lines"] ["_law_tape_here", "_law_system", "_law_world_here"] (defScope (topS 34)) := ⟨rfl, rfl, rfl, by decide +kernel, rfl, by decide +kernel, by decide +kernel⟩
def sdAct : Sd := fun ds R => ∃ (s : Sys) (W : Wd), ds = [sysD s, worldD W] ∧ WOk W ∧ s.caches.length = W.c ∧ s.net.length ≤ 1000 ∧ (∀ (k : Nat) (c : Cache), s.caches[k]? = some c → Small c) ∧ ∀ a, R (actD a)
theorem ok_law_action {f : Addr} {fd : FuncData} (D1 : Dfn K mg "_law_action" (topS 34) ["_law_tape_here", "_law_system", "_law_world_here"] f fd) (T : TCfg K C mg) (h__law_draw : Has P w K mg base 1 "_law_draw" ["_law_tape_here", "_law_many"] (SpT K C sdDraw)) : Has P w K mg base 2 "_law_action" ["_law_tape_here", "_law_system", "_law_world_here"] (SpT K C sdAct) := by
  refine has_of D1 (fn_tape D1.F sc_law_action (fun ds R ⟨_, _, e, _⟩ => by rw [e]; rfl) fun cdv A outer s H E u ds R hr ⟨y, W, eq, z, hnc, hnn, hcs, hR⟩ => ?_)
  subst eq
  have zc := z.c
  have zm := z.my
  refine dss_env (env' := [_, _, _, _, _, _, _]) rfl ?_
  refine dss_cons (ds_set 3 sc_law_action.nd rfl (.inl rfl) (de_callHT h__law_draw (hr.mono (by decide)) rfl (da_cons (de_v 0 rfl rfl v34__law_tape_here (da_cons (de_int (da_nil ⟨_, rfl, 16, rfl, by first | omega | (simp only [List.length_map]; omega), fun n5 h5 => (dss_env (env' := [_, _, _, _, _, _, _]) rfl ?_)⟩)))))))
  generalize n5 = ch
  refine dss_cons (ds_set 4 sc_law_action.nd rfl (.inl rfl) (de_callHT h__law_draw (hr.mono (by decide)) rfl (da_cons (de_v 0 rfl rfl v34__law_tape_here (da_cons (de_ix (de_v 2 rfl rfl v34__law_world_here (de_int ⟨_, _, rfl, rfl, (da_nil ⟨_, rfl, _, rfl, by first | omega | (simp only [List.length_map]; omega), fun n6 h6 => (dss_env (env' := [_, _, _, _, _, _, _]) rfl ?_)⟩)⟩))))))))
  have hcl : n6 < y.caches.length := by omega
  generalize n6 = core at hcl
  refine dss_cons (ds_set 5 sc_law_action.nd rfl (.inl rfl) (de_callHT h__law_draw (hr.mono (by decide)) rfl (da_cons (de_v 0 rfl rfl v34__law_tape_here (da_cons (de_ix (de_v 2 rfl rfl v34__law_world_here (de_int ⟨_, _, rfl, rfl, (da_nil ⟨_, rfl, _, rfl, by first | omega | (simp only [List.length_map]; omega), fun n7 h7 => (dss_env (env' := [_, _, _, _, _, _, _]) rfl ?_)⟩)⟩))))))))
  generalize n7 = line
  have hc : y.caches[core]? = some (y.caches[core]) := List.getElem?_eq_getElem hcl
  have hsm := (hcs _ _ hc).l
  generalize y.caches[core] = cc at hc hsm
  refine dss_cons (ds_set 6 sc_law_action.nd rfl (.inl rfl) (de_ix (de_ix (de_ix (de_v 1 rfl rfl v34__law_system (de_int ⟨_, _, rfl, rfl, (de_v 4 rfl rfl v34__law_core ⟨_, _, rfl, item_nat (by rw [List.getElem?_map, hc]; rfl), (de_int ⟨_, _, rfl, rfl, (dss_env (env' := [_, _, _, _, _, _, _]) rfl ?_)⟩)⟩)⟩))))))
  have fin2 : DSs (cxOf CX0 P w K mg base ["_law_tape_here", "_law_system", "_law_world_here", "_law_choice", "_law_core", "_law_line", "_law_lines"] "_law_action" (defScope (topS 34)) f cdv A outer s H E).nox C (some u) ((defBody (topS 34)).drop 6)
      [some (.adr u.a), some (sysD y), some (worldD W), some (.int ch), some (.int core), some (.int line), some (.tup (cc.lines.map (entT lineF)))] ⟨fun _ => R .non, R, fun _ => False, fun _ => False⟩ := by
    refine dss_cons (ds_if (dt_eq (de_v 3 rfl rfl v34__law_choice (de_int ⟨_, rfl, ?_⟩))))
    split
    · exact dss_cons (ds_ret (de_tup (da_cons (de_str (da_cons (de_v 4 rfl rfl v34__law_core (da_cons (de_v 5 rfl rfl v34__law_line (da_nil ⟨Nat.le_of_ble_eq_true rfl, (hR (.evict core line))⟩)))))))))
    · refine dss_nil ?_
      refine dss_cons (ds_ret (de_tup (da_cons (de_str (da_cons (de_v 4 rfl rfl v34__law_core (da_cons (de_v 5 rfl rfl v34__law_line (da_cons (de_eq (de_callHT h__law_draw (hr.mono (by decide)) rfl (da_cons (de_v 0 rfl rfl v34__law_tape_here (da_cons (de_int (da_nil ⟨_, rfl, 2, rfl, by first | omega | (simp only [List.length_map]; omega), fun n8 h8 => (de_int ⟨_, rfl, (da_nil ⟨Nat.le_of_ble_eq_true rfl, ?_⟩)⟩)⟩))))))))))))))))
      exact hR (.request core line _)
  have fin1 : DSs (cxOf CX0 P w K mg base ["_law_tape_here", "_law_system", "_law_world_here", "_law_choice", "_law_core", "_law_line", "_law_lines"] "_law_action" (defScope (topS 34)) f cdv A outer s H E).nox C (some u) ((defBody (topS 34)).drop 5)
      [some (.adr u.a), some (sysD y), some (worldD W), some (.int ch), some (.int core), some (.int line), some (.tup (cc.lines.map (entT lineF)))] ⟨fun _ => R .non, R, fun _ => False, fun _ => False⟩ := by
    refine dss_cons (ds_if (dt_w (dw_and (dt_lt (de_v 3 rfl rfl v34__law_choice (de_int ⟨_, _, rfl, rfl, ?_⟩))))))
    split
    · refine dw_one (dt_truth (de_v 6 rfl rfl v34__law_lines ⟨_, rfl, ?_⟩)) (.inl rfl)
      split
      · rename_i hne
        have hpos : 0 < (cc.lines.map (entT lineF)).length := by
          cases hq : cc.lines.map (entT lineF) with
          | nil => rw [hq] at hne; cases hne
          | cons a b => exact Nat.succ_pos _
        rw [List.length_map] at hpos
        have hi0 : ∀ n : Nat, n < max ((cc.lines.map (entT lineF)).length) 1 → n < cc.lines.length := fun n h => by
          rw [List.length_map] at h; omega
        have hi : ∀ (n : Nat) (h : n < max ((cc.lines.map (entT lineF)).length) 1), (cc.lines.map (entT lineF))[n]? = some (entT lineF (cc.lines[n]'(hi0 n h))) := fun n h => by
          rw [List.getElem?_map, List.getElem?_eq_getElem (hi0 n h)]; rfl
        refine dss_cons (ds_ret (de_tup (da_cons (de_str (da_cons (de_v 4 rfl rfl v34__law_core (da_cons (de_ix (de_ix (de_v 6 rfl rfl v34__law_lines (de_callHT h__law_draw (hr.mono (by decide)) rfl (da_cons (de_v 0 rfl rfl v34__law_tape_here (da_cons (de_len rfl T.no_len (de_v 6 rfl rfl v34__law_lines ⟨_, rfl, (da_nil ⟨_, rfl, _, rfl, by first | omega | (simp only [List.length_map]; omega), fun n9 h9 => ⟨_, _, rfl, item_nat (hi n9 h9), (de_int ⟨_, _, rfl, rfl, (da_nil ⟨Nat.le_of_ble_eq_true rfl, (hR (.evict core _))⟩)⟩)⟩⟩)⟩))))))))))))))))
      · exact dss_nil fin2
    · exact dss_nil fin2
  refine dss_cons (ds_if (dt_w (dw_and (dt_lt (de_v 3 rfl rfl v34__law_choice (de_int ⟨_, _, rfl, rfl, ?_⟩))))))
  split
  · refine dw_one (dt_truth (de_ix (de_v 1 rfl rfl v34__law_system (de_int ⟨_, _, rfl, rfl, ⟨_, rfl, ?_⟩⟩)))) (.inl rfl)
    split
    · refine dss_cons (ds_ret (de_tup (da_cons (de_str (da_cons (de_callHT h__law_draw (hr.mono (by decide)) rfl (da_cons (de_v 0 rfl rfl v34__law_tape_here (da_cons (de_len rfl T.no_len (de_ix (de_v 1 rfl rfl v34__law_system (de_int ⟨_, _, rfl, rfl, ⟨_, rfl, (da_nil ⟨_, rfl, _, rfl, by first | omega | (simp only [List.length_map]; omega), fun n10 h10 => (da_nil ⟨Nat.le_of_ble_eq_true rfl, (hR (.deliver _))⟩)⟩)⟩⟩)))))))))))))
    · exact dss_nil fin1
  · exact dss_nil fin1
end
end WK
set_option maxRecDepth 100000
set_option maxHeartbeats 4000000
namespace WK
open PySem PySem.Spec PyProof.Rows L2
open LK (S3 MK Msg Cfg Cache Serv Home Sys)
section
variable {P : Program} {w : World} {K : PySem.W.Frag} {mg : Str → Option Value} {base : Heap} {C : Addr}
/-! ### what always holds bounds what there is -/
structure SetOk (n size : Nat) (g : Cfg) : Prop where
  n1 : 1 ≤ n
  n4 : n ≤ 4
  size : size ≤ 16
  ok : CfgOk g
  lw : g.lw ≤ 16
theorem div_few {size lw : Nat} (h1 : size ≤ 16) (h2 : lw ≤ 16) : (size + lw - 1) / lw ≤ 31 := Nat.le_trans (Nat.div_le_self _ _) (by omega)
theorem keys_few {β : Type} {es : List (Nat × β)} {N : Nat} (h1 : (es.map (·.1)).Nodup) (h2 : ∀ l, l ∈ es.map (·.1) → l < N) : es.length ≤ N := by
  have h := LK.nodup_lt N _ h1 h2
  rwa [List.length_map] at h
theorem sys_ok {n size : Nat} {g : Cfg} {s : Sys} (Z : SetOk n size g) (I : LK.Inv n size g s) (hn : s.net.length ≤ 1000) : SysOk g s := by
  have hh : s.homes.length ≤ 31 := by rw [I.nh]; exact div_few Z.size Z.lw
  have z1 := Z.size
  have z2 := Z.lw
  have z3 := Z.n4
  refine ⟨Z.ok, by omega, by rw [I.mem]; omega, by rw [I.nc]; omega, by omega, hn, fun k c hc => ?_, fun l h hl => ?_, fun m hm => (I.ms m hm).2⟩
  · have hk : k < s.caches.length := (List.getElem?_eq_some_iff.mp hc).1
    have e := LK.cache_some hk
    rw [hc] at e
    cases e
    have kk := I.keys k
    exact ⟨Nat.le_trans (keys_few kk.n1 kk.l1) (by omega), Nat.le_trans (keys_few kk.n2 kk.l2) (by omega), Nat.le_trans (keys_few kk.n3 kk.l3) (by omega)⟩
  · obtain ⟨a, Vw, A⟩ := I.vw l
    have e : LK.homeAt s l = h := by unfold LK.homeAt; simp [List.getD_eq_getElem?_getD, hl]
    have e2 := Vw.hm
    rw [e] at e2
    subst e2
    have hs1 : a.sh.length ≤ n := LK.nodup_lt n _ A.shn A.shl
    refine ⟨by show a.sh.length ≤ 1000; omega, fun sv hsv => ?_⟩
    have hsv : a.sv = some sv := hsv
    cases hg : sv.gr with
    | true => rw [(A.p1 sv hsv hg).1]; exact Nat.zero_le _
    | false =>
      cases hr : sv.rcl with
      | true => rw [(A.p2 sv hsv hg hr).1]; exact Nat.zero_le _
      | false =>
        have h1 := (A.p3 sv hsv hg hr).2.2.2.2
        have h2 := LK.nodup_lt n _ h1 (fun x hx => A.shl x (A.p3a sv x hsv hg hr hx).1)
        omega
theorem net_few {n size : Nat} {g : Cfg} {s : Sys} (Z : SetOk n size g) (h : LK.pot 8 LK.F3 s ≤ 208) : s.net.length ≤ 1000 := by
  have := LK.len_le_pot (s := s) (W := 8) (F := LK.F3) (by decide)
  omega
/-! ### _law_states -/
theorem sc_law_states : FnScope ["_law_cache", "_law_line", "_law_entry"] ["_law_cache", "_law_line"] (defScope (topS 36)) := ⟨rfl, rfl, rfl, by decide +kernel, rfl, by decide +kernel, by decide +kernel⟩
def secD : D → D
  | .tup (_ :: x :: _) => x
  | _ => .non
def sdStates : Sd := fun ds R => ∃ (c : Cache) (l : Nat), ds = [cacheD c, .int l] ∧ Small c ∧ R (.slst ((c.lines.filter (fun e => e.1 == l)).map (fun e => stS e.2.1)))
theorem ok_law_states {f : Addr} {fd : FuncData} (D1 : Dfn K mg "_law_states" (topS 36) ["_law_cache", "_law_line"] f fd) : Has P w K mg base 1 "_law_states" ["_law_cache", "_law_line"] (SpP K C sdStates) := by
  refine has_of D1 (fn_pure D1.F sc_law_states (fun ds R ⟨_, _, e, _⟩ => by rw [e]; rfl) fun cdv A outer s H E ds R hr ⟨c, l, eq, hz, hR⟩ => ?_)
  subst eq
  refine dss_env (env' := [_, _, _]) rfl ?_
  refine dss_cons (ds_ret (de_slst (dl_lc (i := 2) rfl sc_law_states.nd (blkOk_by (N := ["_law_cache", "_law_line", "_law_entry"]) (sc := defScope (topS 36)) (by decide +kernel)) rfl rfl (de_ix (de_var 0 rfl rfl (.inl rfl) (de_int ⟨_, _, rfl, rfl, ⟨_, fun d => decide (keyD d = (l : Int)), secD, rfl, by have := hz.l; rw [List.length_map]; omega, fun x hx s H C2 cl fp => ?_, fun x hx _ s H C2 cl fp => ?_, fun x hx _ => ?_, ⟨(c.lines.filter (fun e => e.1 == l)).map (fun e => stS e.2.1), ?_, hR⟩⟩⟩))))))
  · obtain ⟨y, hy, rfl⟩ := List.mem_map.mp hx
    exact dts_one (dt_eq (de_ix (de_var 2 rfl rfl (.inl rfl) (de_int ⟨_, _, rfl, rfl, (de_var 1 rfl rfl (.inr (.inl rfl)) ⟨_, rfl, rfl⟩)⟩))))
  · obtain ⟨y, hy, rfl⟩ := List.mem_map.mp hx
    exact (de_ix (de_var 2 rfl rfl (.inl rfl) (de_int ⟨_, _, rfl, rfl, rfl⟩)))
  · obtain ⟨y, hy, rfl⟩ := List.mem_map.mp hx
    rfl
  · rw [List.filter_map, List.map_map, List.map_map]
    have e1 : ((fun d => decide (keyD d = (l : Int))) ∘ entT lineF : Nat × (S3 × Nat) → Bool) = fun e => e.1 == l := by
      funext e; exact nat_eq e.1 l
    rw [e1]; rfl
/-! ### _law_rivals -/
theorem sc_law_rivals : FnScope ["_law_cache", "_law_line", "_law_many_sets", "_law_entry"] ["_law_cache", "_law_line", "_law_many_sets"] (defScope (topS 37)) := ⟨rfl, rfl, rfl, by decide +kernel, rfl, by decide +kernel, by decide +kernel⟩
def sdRivals : Sd := fun ds R => ∃ (g : Cfg) (c : Cache) (l : Nat), ds = [cacheD c, .int l, .int g.sets] ∧ Small c ∧ 1 ≤ g.sets ∧ R (.ilst ((c.lines.filter (fun e => LK.inSet g l e.1)).map (fun e => (e.1 : Int))))
theorem ok_law_rivals {f : Addr} {fd : FuncData} (D1 : Dfn K mg "_law_rivals" (topS 37) ["_law_cache", "_law_line", "_law_many_sets"] f fd) (T : TCfg K C mg) : Has P w K mg base 1 "_law_rivals" ["_law_cache", "_law_line", "_law_many_sets"] (SpP K C sdRivals) := by
  refine has_of D1 (fn_pure D1.F sc_law_rivals (fun ds R ⟨_, _, _, e, _⟩ => by rw [e]; rfl) fun cdv A outer s H E ds R hr ⟨g, c, l, eq, hz, hs1, hR⟩ => ?_)
  subst eq
  have hsets : (0 : Int) < (g.sets : Int) := by omega
  refine dss_env (env' := [_, _, _, _]) rfl ?_
  refine dss_cons (ds_ret (de_ilst (dl_lc (i := 3) rfl sc_law_rivals.nd (blkOk_by (N := ["_law_cache", "_law_line", "_law_many_sets", "_law_entry"]) (sc := defScope (topS 37)) (by decide +kernel)) rfl rfl (de_ix (de_var 0 rfl rfl (.inl rfl) (de_int ⟨_, _, rfl, rfl, ⟨_, fun d => decide (keyD d % (g.sets : Int) = (l : Int) % (g.sets : Int)), fun d => .int (keyD d), rfl, by have := hz.l; rw [List.length_map]; omega, fun x hx s H C2 cl fp => ?_, fun x hx _ s H C2 cl fp => ?_, fun _ _ _ => rfl, ⟨(c.lines.filter (fun e => LK.inSet g l e.1)).map (fun e => (e.1 : Int)), ?_, hR⟩⟩⟩))))))
  · obtain ⟨y, hy, rfl⟩ := List.mem_map.mp hx
    exact dts_one (dt_eq (de_mod (de_intc rfl T.no_int (de_ix (de_var 3 rfl rfl (.inl rfl) (de_int ⟨_, _, rfl, rfl, ⟨_, rfl, (de_var 2 rfl rfl (.inr (.inl rfl)) ⟨_, _, rfl, rfl, hsets, (de_mod (de_intc rfl T.no_int (de_var 1 rfl rfl (.inr (.inl rfl)) ⟨_, rfl, (de_var 2 rfl rfl (.inr (.inl rfl)) ⟨_, _, rfl, rfl, hsets, ⟨_, rfl, rfl⟩⟩)⟩)))⟩)⟩⟩))))))
  · obtain ⟨y, hy, rfl⟩ := List.mem_map.mp hx
    exact (de_ix (de_var 3 rfl rfl (.inl rfl) (de_int ⟨_, _, rfl, rfl, rfl⟩)))
  · rw [List.filter_map, List.map_map, List.map_map]
    have e1 : ((fun d => decide (keyD d % (g.sets : Int) = (l : Int) % (g.sets : Int))) ∘ entT lineF : Nat × (S3 × Nat) → Bool) = fun e => LK.inSet g l e.1 := by
      funext e; exact mod_eq g e.1 l
    rw [e1]; rfl
/-! ### _law_settled -/
theorem v35__law_tape_here : VarOk (defScope (topS 35)) "_law_tape_here" := ⟨.inl rfl, by decide, by decide⟩
theorem v35__law_config_here : VarOk (defScope (topS 35)) "_law_config_here" := ⟨.inl rfl, by decide, by decide⟩
theorem v35__law_system : VarOk (defScope (topS 35)) "_law_system" := ⟨.inl rfl, by decide, by decide⟩
theorem v35__law_mixed : VarOk (defScope (topS 35)) "_law_mixed" := ⟨.inl rfl, by decide, by decide⟩
theorem v35__law_count : VarOk (defScope (topS 35)) "_law_count" := ⟨.inl rfl, by decide, by decide⟩
theorem v35__law_indices : VarOk (defScope (topS 35)) "_law_indices" := ⟨.inl rfl, by decide, by decide⟩
theorem v35__law_place : VarOk (defScope (topS 35)) "_law_place" := ⟨.inl rfl, by decide, by decide⟩
theorem sc_law_settled : FnScope ["_law_tape_here", "_law_config_here", "_law_system", "_law_mixed", "_law_count", "_law_k", "_law_indices", "_law_place"] ["_law_tape_here", "_law_config_here", "_law_system", "_law_mixed"] (defScope (topS 35)) := ⟨rfl, rfl, rfl, by decide +kernel, rfl, by decide +kernel, by decide +kernel⟩
def forB : Stmt → List Stmt
  | .For _ _ b _ _ => b
  | _ => []
def sdSett : Sd := fun ds R => ∃ (n size : Nat) (g : Cfg) (s : Sys) (mixed : Bool), ds = [.cfg g, sysD s, .bl mixed] ∧ SetOk n size g ∧ LK.Inv n size g s ∧ LK.pot 8 LK.F3 s ≤ 200 ∧ ∀ j t, LK.Run g j s t → t.net = [] → R (.tup [sysD t, .int (j : Nat)])
theorem ok_law_settled {f : Addr} {fd : FuncData} (D1 : Dfn K mg "_law_settled" (topS 35) ["_law_tape_here", "_law_config_here", "_law_system", "_law_mixed"] f fd) (T : TCfg K C mg) (h__law_draw : Has P w K mg base 1 "_law_draw" ["_law_tape_here", "_law_many"] (SpT K C sdDraw)) (h_next_system : Has P w K mg base 5 "next_system" ["config", "system", "action"] (SpP K C sdNext)) (h_deliverable : Has P w K mg base 2 "deliverable" ["system"] (SpP K C sdDeliv)) : Has P w K mg base 6 "_law_settled" ["_law_tape_here", "_law_config_here", "_law_system", "_law_mixed"] (SpT K C sdSett) := by
  refine has_of D1 (fn_tape D1.F sc_law_settled (fun ds R ⟨_, _, _, _, _, e, _⟩ => by rw [e]; rfl) fun cdv A outer s H E u ds R hr ⟨n, size, g, y, mixed, eq, Z, I, hp, hR⟩ => ?_)
  subst eq
  have hP : LK.PotOk 8 LK.F3 n := LK.pot8 Z.n4
  refine dss_env (env' := [_, _, _, _, _, _, _, _]) rfl ?_
  refine dss_cons (ds_set 4 sc_law_settled.nd rfl (.inl rfl) (de_int (dss_env (env' := [_, _, _, _, _, _, _, _]) rfl ?_)))
  have fin : ∀ {t : Sys} {j : Nat} {d5 d6 d7 : Option D}, LK.Run g j y t → t.net = [] → DSs (cxOf CX0 P w K mg base ["_law_tape_here", "_law_config_here", "_law_system", "_law_mixed", "_law_count", "_law_k", "_law_indices", "_law_place"] "_law_settled" (defScope (topS 35)) f cdv A outer s H E).nox C (some u) ((defBody (topS 35)).drop 2) [some (.adr u.a), some (.cfg g), some (sysD t), some (.bl mixed), some (.int (j : Nat)), d5, d6, d7] ⟨fun _ => R .non, R, fun _ => False, fun _ => False⟩ := fun {t j d5 d6 d7} rn hq => by
    exact dss_cons (ds_ret (de_tup (da_cons (de_v 2 rfl rfl v35__law_system (da_cons (de_v 4 rfl rfl v35__law_count (da_nil ⟨Nat.le_of_ble_eq_true rfl, (hR _ _ rn hq)⟩)))))))
  refine dss_cons (ds_forR 5 (fun j env' => ∃ (t : Sys) (d5 d6 d7 : Option D), LK.Run g j y t ∧ env' = [some (.adr u.a), some (.cfg g), some (sysD t), some (.bl mixed), some (.int (j : Nat)), d5, d6, d7]) PassesOwn.never rfl sc_law_settled.nd rfl (.inl rfl) rfl T.no_range (de_int ⟨200, rfl, by omega, ⟨y, _, _, _, .nil, rfl⟩, ?_, ?_⟩))
  · intro j env' hj ⟨t, d5, d6, d7, rn, he⟩
    subst he
    have It := rn.inv I
    have hpt := rn.pot I hP
    have ok := sys_ok Z It (net_few Z (by omega))
    have hix : (LK.delivIdx t).length ≤ 1000 := Nat.le_trans (List.length_filter_le _ _) (by rw [List.length_range]; exact ok.nn)
    refine dss_env (env' := [_, _, _, _, _, _, _, _]) rfl ?_
    refine dss_cons (ds_set 6 sc_law_settled.nd rfl (.inl rfl) (de_callH h_deliverable (hr.mono (by decide)) rfl (da_cons (de_v 2 rfl rfl v35__law_system (da_nil ⟨_, rfl, ok.nn, ok.ml, (dss_env (env' := [_, _, _, _, _, _, _, _]) rfl ?_)⟩)))))
    refine dss_cons (ds_if (dt_eq (de_len rfl T.no_len (de_v 6 rfl rfl v35__law_indices ⟨_, rfl, (de_int ⟨_, rfl, ?_⟩)⟩))))
    split
    · rename_i h0
      have h0 := of_decide_eq_true h0
      have h1 : LK.delivIdx t = [] := by
        rw [List.length_map] at h0
        exact List.length_eq_zero_iff.mp (by omega)
      exact dss_cons (ds_break (fin rn (LK.quiet_of_idx It h1)))
    · rename_i h0
      have hpos : 0 < (LK.delivIdx t).length := by
        rw [List.length_map] at h0
        refine Nat.pos_of_ne_zero fun e => h0 ?_
        rw [e]; rfl
      refine dss_nil ?_
      have step : ∀ {pl : Nat}, pl < (LK.delivIdx t).length → DSs (cxOf CX0 P w K mg base ["_law_tape_here", "_law_config_here", "_law_system", "_law_mixed", "_law_count", "_law_k", "_law_indices", "_law_place"] "_law_settled" (defScope (topS 35)) f cdv A outer s H E).nox C (some u) ((forB ((defBody (topS 35)).getD 1 (.Pass ⟨0, 0, 0, 0⟩))).drop 4)
          [some (.adr u.a), some (.cfg g), some (sysD t), some (.bl mixed), some (.int (j : Nat)), some (.int j), some (.tup ((LK.delivIdx t).map natD)), some (.int (pl : Nat))]
          { nx := fun env' => ∃ (t : Sys) (d5 d6 d7 : Option D), LK.Run g (j + 1) y t ∧ env' = [some (.adr u.a), some (.cfg g), some (sysD t), some (.bl mixed), some (.int ((j + 1 : Nat) : Int)), d5, d6, d7], ct := fun env' => ∃ (t : Sys) (d5 d6 d7 : Option D), LK.Run g (j + 1) y t ∧ env' = [some (.adr u.a), some (.cfg g), some (sysD t), some (.bl mixed), some (.int ((j + 1 : Nat) : Int)), d5, d6, d7], rt := R, bk := fun env' => DSs (cxOf CX0 P w K mg base ["_law_tape_here", "_law_config_here", "_law_system", "_law_mixed", "_law_count", "_law_k", "_law_indices", "_law_place"] "_law_settled" (defScope (topS 35)) f cdv A outer s H E).nox C (some u) ((defBody (topS 35)).drop 2) env' ⟨fun _ => R .non, R, fun _ => False, fun _ => False⟩ } := fun {pl} hpl => by
        obtain ⟨i, hi⟩ : ∃ i, (LK.delivIdx t)[pl]? = some i := ⟨_, List.getElem?_eq_getElem hpl⟩
        have him := List.mem_of_getElem? hi
        have hip : ((LK.delivIdx t).map natD)[pl]? = some (.int i) := by rw [List.getElem?_map, hi]; rfl
        obtain ⟨t2, ht2⟩ := LK.delivered_some It him
        have rn2 := LK.Run.step rn him ht2
        have hnx : nextS g t (.deliver i) = some t2 := by
          show (if i ∈ LK.delivIdx t then LK.delivered g t i else none) = _
          rw [if_pos him, ht2]
        have hbd : ∀ t', nextS g t (.deliver i) = some t' → t'.net.length ≤ 1000 ∧ t'.mem ≤ 1000 := fun t' ht' => by
          rw [hnx] at ht'
          cases ht'
          have I2 := rn2.inv I
          have p2 := rn2.pot I hP
          have z1 := Z.size
          exact ⟨net_few Z (by omega), by rw [I2.mem]; omega⟩
        have hdl : ∀ i', LK.Act.deliver i = .deliver i' → i' ∈ LK.delivIdx t → ∃ t', LK.delivered g t i' = some t' := fun i' e h => LK.delivered_some It h
        refine dss_cons (ds_set 2 sc_law_settled.nd rfl (.inl rfl) (de_callH h_next_system (hr.mono (by decide)) rfl (da_cons (de_v 1 rfl rfl v35__law_config_here (da_cons (de_v 2 rfl rfl v35__law_system (da_cons (de_tup (da_cons (de_str (da_cons (de_ix (de_v 6 rfl rfl v35__law_indices (de_v 7 rfl rfl v35__law_place ⟨_, _, rfl, item_nat hip, (da_nil ⟨Nat.le_of_ble_eq_true rfl, (da_nil ⟨_, _, .deliver i, rfl, ok, hbd, hdl, (dss_env (env' := [_, _, _, _, _, _, _, _]) rfl ?_)⟩)⟩)⟩))))))))))))))
        rw [hnx]
        refine dss_cons (ds_set 4 sc_law_settled.nd rfl (.inl rfl) (de_add (de_v 4 rfl rfl v35__law_count (de_int ⟨_, _, rfl, rfl, (dss_env (env' := [_, _, _, _, _, _, _, _]) rfl ?_)⟩))))
        exact dss_nil ⟨t2, _, _, _, rn2, rfl⟩
      refine dss_cons (ds_set 7 sc_law_settled.nd rfl (.inl rfl) (de_int (dss_env (env' := [_, _, _, _, _, _, _, _]) rfl ?_)))
      refine dss_cons (ds_if (dt_truth (de_v 3 rfl rfl v35__law_mixed ⟨_, rfl, ?_⟩)))
      cases mixed with
      | true =>
        rw [if_pos rfl]
        refine dss_cons (ds_set 7 sc_law_settled.nd rfl (.inl rfl) (de_callHT h__law_draw (hr.mono (by decide)) rfl (da_cons (de_v 0 rfl rfl v35__law_tape_here (da_cons (de_len rfl T.no_len (de_v 6 rfl rfl v35__law_indices ⟨_, rfl, (da_nil ⟨_, rfl, _, rfl, by first | omega | (simp only [List.length_map]; omega), fun n1 h1 => (dss_env (env' := [_, _, _, _, _, _, _, _]) rfl ?_)⟩)⟩)))))))
        refine dss_nil (step ?_)
        have hz := h1
        rw [List.length_map] at hz
        omega
      | false =>
        rw [if_neg (by decide)]
        exact dss_nil (step (pl := 0) hpos)
  · intro env' ⟨t, d5, d6, d7, rn, he⟩
    subst he
    exact fin rn (LK.run_end rn I hP hp)
end
end WK
set_option maxRecDepth 100000
set_option maxHeartbeats 4000000
namespace WK
open PySem PySem.Spec PyProof.Rows L2
open LK (S3 MK Msg Cfg Cache Serv Home Sys)
section
variable {P : Program} {w : World} {K : PySem.W.Frag} {mg : Str → Option Value} {base : Heap} {C : Addr}
theorem dt_neE {X : Cx} {M : Option Tp} {env : Env} {a b : Expr} {pos : Pos} {Q : Bool → Prop} (hu : X.A.units + 64 < cLine) (h : DE X C M a env fun x => x = .tup [] ∧ DE X C M b env fun y => y = .tup [] ∧ Q false) : DT X C M (.Compare a [.NotEq] [b] pos) env Q :=
  dt_cmp (op_neD hu) (nomark _) (h.imp fun x ⟨ex, hx⟩ => hx.imp fun y ⟨ey, q⟩ => fun v u H gd r1 r2 Q' l => by
    subst ex
    subst ey
    cases r1 with
    | tup h1 h2 =>
    cases h2
    cases r2 with
    | tup h3 h4 =>
    cases h4
    exact ⟨.tuple [], .tuple [], .tup h1 .nil, .tup h3 .nil, rfl, rfl, l _ _ H (Keep.refl gd) (.bl false) ⟨false, rfl, q⟩⟩)
theorem set_of {W : Wd} (h : WOk W) : SetOk W.c W.sz W.g := ⟨h.c.1, h.c.2, h.sz.2, h.g, h.wd.2⟩
theorem states_eq {β : Type} {es : List (Nat × β)} (h : (es.map (·.1)).Nodup) (l : Nat) : es.filter (fun e => e.1 == l) = match LK.get es l with | none => [] | some b => [(l, b)] := by
  induction es with
  | nil => rfl
  | cons e es ih =>
    rw [List.map_cons, List.nodup_cons] at h
    have ih := ih h.2
    rw [List.filter_cons]
    unfold LK.get at ih ⊢
    rw [List.find?_cons]
    by_cases he : e.1 = l
    · have hb : (e.1 == l) = true := by simpa using he
      simp only [hb, if_true, Option.map_some]
      have : es.filter (fun e => e.1 == l) = [] := by
        rw [List.filter_eq_nil_iff]
        intro x hx hq
        have hq : x.1 = l := by simpa using hq
        exact h.1 (List.mem_map.mpr ⟨x, hx, by rw [hq, he]⟩)
      rw [this, ← he]
    · have hb : (e.1 == l) = false := by simpa using he
      simp only [hb, Bool.false_eq_true, if_false]
      exact ih
theorem quiet_pot {n size : Nat} {g : Cfg} {s : Sys} (Z : SetOk n size g) (I : LK.Inv n size g s) (hq : s.net = []) : LK.pot 8 LK.F3 s ≤ 31 := by
  have h1 := LK.pot_quiet (W := 8) (B := 1) (F := LK.F3) I hq (fun x => by unfold LK.F3; split <;> omega)
  have h2 : s.homes.length ≤ 31 := by rw [I.nh]; exact div_few Z.size Z.lw
  omega
theorem quiet_potB {n size : Nat} {g : Cfg} {s : Sys} (I : LK.Inv n size g s) (hq : s.net = []) (W : Nat) : LK.pot W (fun _ => 0) s ≤ 0 := by
  have h1 := LK.pot_quiet (W := W) (B := 0) (F := fun _ => 0) I hq (fun x => Nat.le_refl _)
  omega
/-! ### _law_wanted -/
theorem v38__law_tape_here : VarOk (defScope (topS 38)) "_law_tape_here" := ⟨.inl rfl, by decide, by decide⟩
theorem v38__law_config_here : VarOk (defScope (topS 38)) "_law_config_here" := ⟨.inl rfl, by decide, by decide⟩
theorem v38__law_system : VarOk (defScope (topS 38)) "_law_system" := ⟨.inl rfl, by decide, by decide⟩
theorem v38__law_world_here : VarOk (defScope (topS 38)) "_law_world_here" := ⟨.inl rfl, by decide, by decide⟩
theorem v38__law_core : VarOk (defScope (topS 38)) "_law_core" := ⟨.inl rfl, by decide, by decide⟩
theorem v38__law_line : VarOk (defScope (topS 38)) "_law_line" := ⟨.inl rfl, by decide, by decide⟩
theorem v38__law_exclusive : VarOk (defScope (topS 38)) "_law_exclusive" := ⟨.inl rfl, by decide, by decide⟩
theorem v38__law_count : VarOk (defScope (topS 38)) "_law_count" := ⟨.inl rfl, by decide, by decide⟩
theorem v38__law_states_here : VarOk (defScope (topS 38)) "_law_states_here" := ⟨.inl rfl, by decide, by decide⟩
theorem v38__law_rivals_here : VarOk (defScope (topS 38)) "_law_rivals_here" := ⟨.inl rfl, by decide, by decide⟩
theorem v38__law_more : VarOk (defScope (topS 38)) "_law_more" := ⟨.inl rfl, by decide, by decide⟩
theorem sc_law_wanted : FnScope ["_law_tape_here", "_law_config_here", "_law_system", "_law_world_here", "_law_core", "_law_line", "_law_exclusive", "_law_count", "_law_states_here", "_law_rivals_here", "_law_more"] ["_law_tape_here", "_law_config_here", "_law_system", "_law_world_here"] (defScope (topS 38)) := ⟨rfl, rfl, rfl, by decide +kernel, rfl, by decide +kernel, by decide +kernel⟩
def sdWant : Sd := fun ds R => ∃ (W : Wd) (s : Sys), ds = [.cfg W.g, sysD s, worldD W] ∧ WOk W ∧ LK.Inv W.c W.sz W.g s ∧ s.net = [] ∧ ∀ t, LK.Inv W.c W.sz W.g t → t.net = [] → R (sysD t)
theorem ok_law_wanted {f : Addr} {fd : FuncData} (D1 : Dfn K mg "_law_wanted" (topS 38) ["_law_tape_here", "_law_config_here", "_law_system", "_law_world_here"] f fd) (T : TCfg K C mg) (h__law_draw : Has P w K mg base 1 "_law_draw" ["_law_tape_here", "_law_many"] (SpT K C sdDraw)) (h_next_system : Has P w K mg base 5 "next_system" ["config", "system", "action"] (SpP K C sdNext)) (h__law_settled : Has P w K mg base 6 "_law_settled" ["_law_tape_here", "_law_config_here", "_law_system", "_law_mixed"] (SpT K C sdSett)) (h__law_states : Has P w K mg base 1 "_law_states" ["_law_cache", "_law_line"] (SpP K C sdStates)) (h__law_rivals : Has P w K mg base 1 "_law_rivals" ["_law_cache", "_law_line", "_law_many_sets"] (SpP K C sdRivals)) : Has P w K mg base 7 "_law_wanted" ["_law_tape_here", "_law_config_here", "_law_system", "_law_world_here"] (SpT K C sdWant) := by
  refine has_of D1 (fn_tape D1.F sc_law_wanted (fun ds R ⟨_, _, e, _⟩ => by rw [e]; rfl) fun cdv A outer s H E u ds R hr ⟨W, y, eq, z, I, hq, hR⟩ => ?_)
  subst eq
  have Z := set_of z
  have zc := z.c
  have zm := z.my
  have hu := hr.units
  refine dss_env (env' := [_, _, _, _, _, _, _, _, _, _, _]) rfl ?_
  refine dss_cons (ds_set 4 sc_law_wanted.nd rfl (.inl rfl) (de_callHT h__law_draw (hr.mono (by decide)) rfl (da_cons (de_v 0 rfl rfl v38__law_tape_here (da_cons (de_ix (de_v 3 rfl rfl v38__law_world_here (de_int ⟨_, _, rfl, rfl, (da_nil ⟨_, rfl, _, rfl, by first | omega | (simp only [List.length_map]; omega), fun n1 h1 => (dss_env (env' := [_, _, _, _, _, _, _, _, _, _, _]) rfl ?_)⟩)⟩))))))))
  have hk : n1 < W.c := by omega
  generalize n1 = k at hk
  refine dss_env (env' := [_, _, _, _, _, _, _, _, _, _, _]) rfl ?_
  refine dss_cons (ds_set 5 sc_law_wanted.nd rfl (.inl rfl) (de_callHT h__law_draw (hr.mono (by decide)) rfl (da_cons (de_v 0 rfl rfl v38__law_tape_here (da_cons (de_ix (de_v 3 rfl rfl v38__law_world_here (de_int ⟨_, _, rfl, rfl, (da_nil ⟨_, rfl, _, rfl, by first | omega | (simp only [List.length_map]; omega), fun n2 h2 => (dss_env (env' := [_, _, _, _, _, _, _, _, _, _, _]) rfl ?_)⟩)⟩))))))))
  have hl : n2 < W.my := by omega
  generalize n2 = l at hl
  refine dss_env (env' := [_, _, _, _, _, _, _, _, _, _, _]) rfl ?_
  refine dss_cons (ds_set 6 sc_law_wanted.nd rfl (.inl rfl) (de_eq (de_callHT h__law_draw (hr.mono (by decide)) rfl (da_cons (de_v 0 rfl rfl v38__law_tape_here (da_cons (de_int (da_nil ⟨_, rfl, 2, rfl, by first | omega | (simp only [List.length_map]; omega), fun n3 h3 => (de_int ⟨_, rfl, (dss_env (env' := [_, _, _, _, _, _, _, _, _, _, _]) rfl ?_)⟩)⟩))))))))
  generalize decide ((n3 : Int) = 1) = e
  refine dss_env (env' := [_, _, _, _, _, _, _, _, _, _, _]) rfl ?_
  refine dss_cons (ds_set 7 sc_law_wanted.nd rfl (.inl rfl) (de_int (dss_env (env' := [_, _, _, _, _, _, _, _, _, _, _]) rfl ?_)))
  have at_c : ∀ {t : Sys}, LK.Inv W.c W.sz W.g t → (t.caches.map cacheD)[k]? = some (cacheD (LK.cacheAt t k)) := fun {t} It => by
    rw [List.getElem?_map, LK.cache_some (by rw [It.nc]; exact hk)]; rfl
  have sm_c : ∀ {t : Sys}, LK.Inv W.c W.sz W.g t → t.net = [] → Small (LK.cacheAt t k) := fun {t} It hqt => (sys_ok Z It (by rw [hqt]; exact Nat.zero_le _)).cs k _ (LK.cache_some (by rw [It.nc]; exact hk))
  have st_c : ∀ {t : Sys}, LK.Inv W.c W.sz W.g t → ((LK.cacheAt t k).lines.filter (fun e => e.1 == l)).map (fun e => stS e.2.1) = match LK.get (LK.cacheAt t k).lines l with | none => [] | some b => [stS b.1] := fun {t} It => by
    rw [states_eq (It.keys k).n1]
    cases LK.get (LK.cacheAt t k).lines l <;> rfl
  have hlh : ∀ {t : Sys}, LK.Inv W.c W.sz W.g t → l < t.homes.length := fun {t} It => by rw [It.nh]; exact hl
  have fin : ∀ {t : Sys} {cnt : Nat} {d8 d9 d10 : Option D}, LK.Inv W.c W.sz W.g t → t.net = [] → cnt ≤ 3 → (LK.get (LK.cacheAt t k).lines l = none → LK.occ W.g (LK.cacheAt t k) l < W.g.ways) → (∀ st w, LK.get (LK.cacheAt t k).lines l = some (st, w) → st = .S ∧ e = true) →
      DSs (cxOf CX0 P w K mg base ["_law_tape_here", "_law_config_here", "_law_system", "_law_world_here", "_law_core", "_law_line", "_law_exclusive", "_law_count", "_law_states_here", "_law_rivals_here", "_law_more"] "_law_wanted" (defScope (topS 38)) f cdv A outer s H E).nox C (some u) ((defBody (topS 38)).drop 8) [some (.adr u.a), some (.cfg W.g), some (sysD t), some (worldD W), some (.int (k : Nat)), some (.int (l : Nat)), some (.bl e), some (.int (cnt : Nat)), d8, d9, d10] ⟨fun _ => R .non, R, fun _ => False, fun _ => False⟩ := fun {t cnt d8 d9 d10} It hqt hcnt h1 h2 => by
    obtain ⟨t2, ha, I2, hp2, hw2⟩ := LK.request_ok It hqt hk (hlh It) z.rq.1 h1 h2
    have ok := sys_ok Z It (by rw [hqt]; exact Nat.zero_le _)
    have hp8 := hp2 8 LK.F3 (LK.pot8 Z.n4)
    have hpq := quiet_pot Z It hqt
    have hbd : ∀ t', nextS W.g t (.request k l e) = some t' → t'.net.length ≤ 1000 ∧ t'.mem ≤ 1000 := fun t' ht' => by
      have ht' : LK.act2 W.g t k l (some e) = some t' := ht'
      rw [ha] at ht'
      cases ht'
      exact ⟨net_few Z (by omega), by rw [I2.mem]; have := Z.size; omega⟩
    have hdl : ∀ i', LK.Act.request k l e = .deliver i' → i' ∈ LK.delivIdx t → ∃ t', LK.delivered W.g t i' = some t' := fun i' h => by cases h
    have hnx : nextS W.g t (.request k l e) = some t2 := ha
    refine dss_cons (ds_set 2 sc_law_wanted.nd rfl (.inl rfl) (de_callH h_next_system (hr.mono (by decide)) rfl (da_cons (de_v 1 rfl rfl v38__law_config_here (da_cons (de_v 2 rfl rfl v38__law_system (da_cons (de_tup (da_cons (de_str (da_cons (de_v 4 rfl rfl v38__law_core (da_cons (de_v 5 rfl rfl v38__law_line (da_cons (de_v 6 rfl rfl v38__law_exclusive (da_nil ⟨Nat.le_of_ble_eq_true rfl, (da_nil ⟨_, _, .request k l e, rfl, ok, hbd, hdl, ?_⟩)⟩)))))))))))))))))
    rw [hnx]
    refine dss_env (env' := [_, _, _, _, _, _, _, _, _, _, _]) rfl ?_
    refine dss_cons (ds_if (dt_isN (de_v 2 rfl rfl v38__law_system ?_)))
    refine dss_nil ?_
    refine dss_env (env' := [some (.adr u.a), some (.cfg W.g), some (sysD t2), some (worldD W), some (.int (k : Nat)), some (.int (l : Nat)), some (.bl e), some (.int (cnt : Nat)), d8, d9, d10]) rfl ?_
    refine dss_cons (ds_unpack [2, 10] rfl (pgs_cons (pg_name (i := 2) sc_law_wanted.nd rfl (.inl rfl)) (pgs_cons (pg_name (i := 10) sc_law_wanted.nd rfl (.inl rfl)) pgs_nil)) rfl (de_callHT h__law_settled (hr.mono (by decide)) rfl (da_cons (de_v 0 rfl rfl v38__law_tape_here (da_cons (de_v 1 rfl rfl v38__law_config_here (da_cons (de_v 2 rfl rfl v38__law_system (da_cons (de_bl (da_nil ⟨_, rfl, _, _, _, _, _, rfl, Z, I2, by omega, fun j3 t3 rn hq3 => ⟨_, rfl, rfl, (dss_env (env' := [_, _, _, _, _, _, _, _, _, _, _]) rfl ?_)⟩⟩)))))))))))
    have I3 := rn.inv I2
    have hpB := rn.pot I2 (LK.potB Z.n1)
    have hpB2 := hp2 (2 * W.c + 1) (fun _ => 0) (LK.potB Z.n1)
    have hpB3 := quiet_potB It hqt (2 * W.c + 1)
    have hj : j3 ≤ 2 * W.c + 1 := by omega
    obtain ⟨st, w3, hg3, hx3⟩ := LK.want_done I3 hq3 (rn.keeps I2 (LK.Want k e) (fun a b hs hi hp => hs.want hi hp) hw2)
    have hst := st_c I3
    rw [hg3] at hst
    simp only at hst
    refine dss_cons (ds_set 8 sc_law_wanted.nd rfl (.inl rfl) (de_callH h__law_states (hr.mono (by decide)) rfl (da_cons (de_ix (de_ix (de_v 2 rfl rfl v38__law_system (de_int ⟨_, _, rfl, rfl, (de_v 4 rfl rfl v38__law_core ⟨_, _, rfl, item_nat (at_c I3), (da_cons (de_v 5 rfl rfl v38__law_line (da_nil ⟨_, _, rfl, sm_c I3 hq3, (dss_env (env' := [_, _, _, _, _, _, _, _, _, _, _]) rfl ?_)⟩)))⟩)⟩)))))))
    rw [hst]
    refine dss_env (env' := [_, _, _, _, _, _, _, _, _, _, _]) rfl ?_
    refine dss_cons (ds_if (dt_w (dw_or (dt_neE hu (de_ix (de_v 2 rfl rfl v38__law_system (de_int ⟨_, _, rfl, rfl, ?_⟩)))))))
    refine ⟨by show D.tup (t3.net.map msgD) = _; rw [hq3]; rfl, ?_⟩
    refine (de_tup (da_nil ⟨Nat.le_of_ble_eq_true rfl, ?_⟩))
    refine ⟨rfl, ?_⟩
    rw [if_neg (by decide)]
    refine dw_or (dt_ne (de_len rfl T.no_len (de_v 8 rfl rfl v38__law_states_here ⟨_, rfl, (de_int ⟨_, rfl, ?_⟩)⟩)))
    show (if false = true then _ else _)
    rw [if_neg (by decide)]
    have hmore : DSs (cxOf CX0 P w K mg base ["_law_tape_here", "_law_config_here", "_law_system", "_law_world_here", "_law_core", "_law_line", "_law_exclusive", "_law_count", "_law_states_here", "_law_rivals_here", "_law_more"] "_law_wanted" (defScope (topS 38)) f cdv A outer s H E).nox C (some u) ((defBody (topS 38)).drop 13) [some (.adr u.a), some (.cfg W.g), some (sysD t3), some (worldD W), some (.int (k : Nat)), some (.int (l : Nat)), some (.bl e), some (.int (cnt : Nat)), some (.slst [stS st]), d9, some (.int (j3 : Nat))] ⟨fun _ => R .non, R, fun _ => False, fun _ => False⟩ := by
      refine dss_cons (ds_if (dt_w (dw_or (dt_gt (de_v 10 rfl rfl v38__law_more (de_add (de_mul (de_int (de_ix (de_v 3 rfl rfl v38__law_world_here (de_int ⟨_, _, rfl, rfl, ⟨_, _, rfl, rfl, .inr ⟨by omega, by omega⟩, (de_int ⟨_, _, rfl, rfl, ⟨_, _, rfl, rfl, ?_⟩⟩)⟩⟩)))))))))))
      rw [decide_eq_false (by omega), if_neg (by decide)]
      refine dw_one (dt_gt (de_add (de_add (de_v 7 rfl rfl v38__law_count (de_int ⟨_, _, rfl, rfl, (de_v 10 rfl rfl v38__law_more ⟨_, _, rfl, rfl, (de_add (de_mul (de_int (de_ix (de_v 3 rfl rfl v38__law_world_here (de_int ⟨_, _, rfl, rfl, ⟨_, _, rfl, rfl, .inr ⟨by omega, by omega⟩, (de_int ⟨_, _, rfl, rfl, ⟨_, _, rfl, rfl, ?_⟩⟩)⟩⟩))))))⟩)⟩))))) (.inr rfl)
      rw [decide_eq_false (by omega), if_neg (by decide)]
      refine dss_nil ?_
      exact dss_cons (ds_ret (de_v 2 rfl rfl v38__law_system (hR t3 I3 hq3)))
    refine dw_one (dt_w (dw_and (dt_truth (de_v 6 rfl rfl v38__law_exclusive ⟨_, rfl, ?_⟩)))) (.inr rfl)
    cases e with
    | false =>
      rw [if_neg (by decide), if_neg (by decide)]
      exact dss_nil hmore
    | true =>
      rw [if_pos rfl]
      refine dw_one (dt_eq (de_ix (de_v 8 rfl rfl v38__law_states_here (de_int ⟨_, _, rfl, rfl, (de_str ⟨_, rfl, ?_⟩)⟩)))) (.inl rfl)
      have hne := hx3 rfl
      cases st with
      | S => exact absurd rfl hne
      | E =>
        refine dss_nil ?_
        exact hmore
      | M =>
        refine dss_nil ?_
        exact hmore
  refine dss_env (env' := [_, _, _, _, _, _, _, _, _, _, _]) rfl ?_
  refine dss_cons (ds_set 8 sc_law_wanted.nd rfl (.inl rfl) (de_callH h__law_states (hr.mono (by decide)) rfl (da_cons (de_ix (de_ix (de_v 2 rfl rfl v38__law_system (de_int ⟨_, _, rfl, rfl, (de_v 4 rfl rfl v38__law_core ⟨_, _, rfl, item_nat (at_c I), (da_cons (de_v 5 rfl rfl v38__law_line (da_nil ⟨_, _, rfl, sm_c I hq, (dss_env (env' := [_, _, _, _, _, _, _, _, _, _, _]) rfl ?_)⟩)))⟩)⟩)))))))
  rw [st_c I]
  have okI := sys_ok Z I (by rw [hq]; exact Nat.zero_le _)
  have hcq := LK.quiet_cache I hq k
  have hocc : LK.occ W.g (LK.cacheAt y k) l = ((LK.cacheAt y k).lines.filter (fun e => LK.inSet W.g l e.1)).length := by
    unfold LK.occ
    rw [hcq.1]
    simp
  have hoc := I.oc k l
  cases hg : LK.get (LK.cacheAt y k).lines l with
  | some b =>
    obtain ⟨st, w0⟩ := b
    refine dss_env (env' := [_, _, _, _, _, _, _, _, _, _, _]) rfl ?_
    refine dss_cons (ds_if (dt_w (dw_and (dt_truth (de_v 8 rfl rfl v38__law_states_here ⟨_, rfl, ?_⟩)))))
    refine dw_one (dt_not (dt_w (dw_and (dt_truth (de_v 6 rfl rfl v38__law_exclusive ⟨_, rfl, ?_⟩))))) (.inl rfl)
    have cont : e = true → st = .S → DSs (cxOf CX0 P w K mg base ["_law_tape_here", "_law_config_here", "_law_system", "_law_world_here", "_law_core", "_law_line", "_law_exclusive", "_law_count", "_law_states_here", "_law_rivals_here", "_law_more"] "_law_wanted" (defScope (topS 38)) f cdv A outer s H E).nox C (some u) ((defBody (topS 38)).drop 6) [some (.adr u.a), some (.cfg W.g), some (sysD y), some (worldD W), some (.int (k : Nat)), some (.int (l : Nat)), some (.bl e), some (.int (0 : Int)), some (.slst [stS st]), none, none] ⟨fun _ => R .non, R, fun _ => False, fun _ => False⟩ := fun he hs => by
      refine dss_cons (ds_set 9 sc_law_wanted.nd rfl (.inl rfl) (de_callH h__law_rivals (hr.mono (by decide)) rfl (da_cons (de_ix (de_ix (de_v 2 rfl rfl v38__law_system (de_int ⟨_, _, rfl, rfl, (de_v 4 rfl rfl v38__law_core ⟨_, _, rfl, item_nat (at_c I), (da_cons (de_v 5 rfl rfl v38__law_line (da_cons (de_ix (de_ix (de_v 3 rfl rfl v38__law_world_here (de_int ⟨_, _, rfl, rfl, (de_int ⟨_, _, rfl, rfl, (da_nil ⟨W.g, _, _, rfl, sm_c I hq, z.st.1, (dss_env (env' := [_, _, _, _, _, _, _, _, _, _, _]) rfl ?_)⟩)⟩)⟩)))))))⟩)⟩)))))))
      refine dss_cons (ds_if (dt_w (dw_and (dt_not (dt_truth (de_v 8 rfl rfl v38__law_states_here ⟨_, rfl, ?_⟩))))))
      refine dss_nil ?_
      exact fin (cnt := 0) I hq (by omega) (fun h => by rw [hg] at h; cases h) (fun st' w' h => by rw [hg] at h; cases h; exact ⟨hs, he⟩)
    cases e with
    | false => exact dss_cons (ds_ret (de_v 2 rfl rfl v38__law_system (hR y I hq)))
    | true =>
      refine dw_one (dt_eq (de_ix (de_v 8 rfl rfl v38__law_states_here (de_int ⟨_, _, rfl, rfl, (de_str ⟨_, rfl, ?_⟩)⟩)))) (.inl rfl)
      cases st with
      | S => exact dss_nil (cont rfl rfl)
      | E => exact dss_cons (ds_ret (de_v 2 rfl rfl v38__law_system (hR y I hq)))
      | M => exact dss_cons (ds_ret (de_v 2 rfl rfl v38__law_system (hR y I hq)))
  | none =>
    refine dss_env (env' := [_, _, _, _, _, _, _, _, _, _, _]) rfl ?_
    refine dss_cons (ds_if (dt_w (dw_and (dt_truth (de_v 8 rfl rfl v38__law_states_here ⟨_, rfl, ?_⟩)))))
    refine dss_nil ?_
    refine dss_cons (ds_set 9 sc_law_wanted.nd rfl (.inl rfl) (de_callH h__law_rivals (hr.mono (by decide)) rfl (da_cons (de_ix (de_ix (de_v 2 rfl rfl v38__law_system (de_int ⟨_, _, rfl, rfl, (de_v 4 rfl rfl v38__law_core ⟨_, _, rfl, item_nat (at_c I), (da_cons (de_v 5 rfl rfl v38__law_line (da_cons (de_ix (de_ix (de_v 3 rfl rfl v38__law_world_here (de_int ⟨_, _, rfl, rfl, (de_int ⟨_, _, rfl, rfl, (da_nil ⟨W.g, _, _, rfl, sm_c I hq, z.st.1, (dss_env (env' := [_, _, _, _, _, _, _, _, _, _, _]) rfl ?_)⟩)⟩)⟩)))))))⟩)⟩)))))))
    generalize hF : (LK.cacheAt y k).lines.filter (fun e => LK.inSet W.g l e.1) = F at hocc
    refine dss_cons (ds_if (dt_w (dw_and (dt_not (dt_truth (de_v 8 rfl rfl v38__law_states_here ⟨_, rfl, ?_⟩))))))
    refine dw_one (dt_ge (de_len rfl T.no_len (de_v 9 rfl rfl v38__law_rivals_here ⟨_, rfl, (de_ix (de_ix (de_v 3 rfl rfl v38__law_world_here (de_int ⟨_, _, rfl, rfl, (de_int ⟨_, _, rfl, rfl, ⟨_, _, rfl, rfl, ?_⟩⟩)⟩))))⟩))) (.inl rfl)
    by_cases hw : W.wy ≤ F.length
    · rw [decide_eq_true (by rw [List.length_map]; omega), if_pos rfl]
      have hF1 : 1 ≤ F.length := Nat.le_trans z.wy.1 hw
      have hF2 : F.length ≤ 1000 := by
        rw [← hF]
        exact Nat.le_trans (List.length_filter_le _ _) (sm_c I hq).l
      have hlt : ∀ n : Nat, n < max ((F.map (fun e => (e.1 : Int))).length) 1 → n < F.length := fun n h => by
        rw [List.length_map] at h; omega
      have hri : ∀ (n : Nat) (h : n < max ((F.map (fun e => (e.1 : Int))).length) 1), itemD (.ilst (F.map (fun e => (e.1 : Int)))) (n : Int) = some (.int ((F[n]'(hlt n h)).1 : Int)) := fun n h => by
        unfold itemD
        simp only
        rw [if_pos (by omega), Int.toNat_natCast, List.getElem?_map, List.getElem?_eq_getElem (hlt n h)]; rfl
      refine dss_cons (ds_set 2 sc_law_wanted.nd rfl (.inl rfl) (de_callH h_next_system (hr.mono (by decide)) rfl (da_cons (de_v 1 rfl rfl v38__law_config_here (da_cons (de_v 2 rfl rfl v38__law_system (da_cons (de_tup (da_cons (de_str (da_cons (de_v 4 rfl rfl v38__law_core (da_cons (de_ix (de_v 9 rfl rfl v38__law_rivals_here (de_callHT h__law_draw (hr.mono (by decide)) rfl (da_cons (de_v 0 rfl rfl v38__law_tape_here (da_cons (de_len rfl T.no_len (de_v 9 rfl rfl v38__law_rivals_here ⟨_, rfl, (da_nil ⟨_, rfl, _, rfl, by first | omega | (simp only [List.length_map]; omega), fun n5 h5 => ⟨_, _, rfl, (hri n5 h5), (da_nil ⟨Nat.le_of_ble_eq_true rfl, (da_nil ?_)⟩)⟩⟩)⟩)))))))))))))))))))))
      have hmemF := List.getElem_mem (hlt _ h5)
      generalize F[n5]'(hlt _ h5) = rr at hmemF
      obtain ⟨r, rb⟩ := rr
      rw [← hF] at hmemF
      obtain ⟨hm1, hm2⟩ := List.mem_filter.mp hmemF
      have hm2 : LK.inSet W.g l r = true := hm2
      obtain ⟨t2, ha, I2, hp2, hoc2, hgone⟩ := LK.evict_ok I hq hk (r := r) (List.mem_map.mpr ⟨_, hm1, rfl⟩)
      have ok := okI
      have hp8 := hp2 8 LK.F3 (LK.pot8 Z.n4)
      have hpq := quiet_pot Z I hq
      have hnx : nextS W.g y (.evict k r) = some t2 := ha
      have hbd : ∀ t', nextS W.g y (.evict k r) = some t' → t'.net.length ≤ 1000 ∧ t'.mem ≤ 1000 := fun t' ht' => by
        rw [hnx] at ht'
        cases ht'
        exact ⟨net_few Z (by omega), by rw [I2.mem]; have := Z.size; omega⟩
      have hdl : ∀ i', LK.Act.evict k r = .deliver i' → i' ∈ LK.delivIdx y → ∃ t', LK.delivered W.g y i' = some t' := fun i' h => by cases h
      refine ⟨_, _, .evict k r, rfl, ok, hbd, hdl, ?_⟩
      rw [hnx]
      refine dss_env (env' := [_, _, _, _, _, _, _, _, _, _, _]) rfl ?_
      refine dss_cons (ds_if (dt_isN (de_v 2 rfl rfl v38__law_system ?_)))
      refine dss_nil ?_
      refine dss_env (env' := [some (.adr u.a), some (.cfg W.g), some (sysD t2), some (worldD W), some (.int (k : Nat)), some (.int (l : Nat)), some (.bl e), some (.int (0 : Int)), _, _, _]) rfl ?_
      refine dss_cons (ds_unpack [2, 7] rfl (pgs_cons (pg_name (i := 2) sc_law_wanted.nd rfl (.inl rfl)) (pgs_cons (pg_name (i := 7) sc_law_wanted.nd rfl (.inl rfl)) pgs_nil)) rfl (de_callHT h__law_settled (hr.mono (by decide)) rfl (da_cons (de_v 0 rfl rfl v38__law_tape_here (da_cons (de_v 1 rfl rfl v38__law_config_here (da_cons (de_v 2 rfl rfl v38__law_system (da_cons (de_bl (da_nil ⟨_, rfl, _, _, _, _, _, rfl, Z, I2, by omega, fun j3 t3 rn hq3 => ⟨_, rfl, rfl, (dss_env (env' := [_, _, _, _, _, _, _, _, _, _, _]) rfl ?_)⟩⟩)))))))))))
      have I3 := rn.inv I2
      have hpB := rn.pot I2 (LK.potB Z.n1)
      have hpB2 := hp2 (2 * W.c + 1) (fun _ => 0) (LK.potB Z.n1)
      have hpB3 := quiet_potB I hq (2 * W.c + 1)
      have hg3 := LK.gone_get (rn.keeps I2 (LK.Gone k) (fun a b hs hi hp => hs.gone hi hp) (hgone l hg))
      have ho3 := rn.oc I2 k l
      have ho4 := hoc2 l hm2
      refine dss_cons (ds_set 7 sc_law_wanted.nd rfl (.inl rfl) (de_add (de_v 7 rfl rfl v38__law_count (de_int ⟨_, _, rfl, rfl, (dss_env (env' := [_, _, _, _, _, _, _, _, _, _, _]) rfl ?_)⟩))))
      refine dss_nil ?_
      refine dss_env (env' := [_, _, _, _, _, _, _, _, _, _, _]) rfl ?_
      refine fin (t := t3) (cnt := j3 + 1) I3 hq3 (by omega) (fun _ => by omega) (fun st' w' h => by rw [hg3] at h; cases h)
    · rw [decide_eq_false (by rw [List.length_map]; omega), if_neg (by decide)]
      refine dss_nil ?_
      refine fin (cnt := 0) I hq (by omega) (fun _ => by rw [hocc]; exact Nat.lt_of_not_le hw) (fun st' w' h => by rw [hg] at h; cases h)
end
end WK
set_option maxRecDepth 100000
set_option maxHeartbeats 4000000
/-! a tuple times 1 is itself; times more, and the data of it -/
namespace WK
open PySem PySem.Spec PyProof.Rows L2
theorem mul_once (q : Addr) (us : Array Value) (m : Nat) (tt : Tok) (dd : Option Addr) (sl : Array (Option Value)) (hne : us.isEmpty = false) :
    Meets (Builtin.«tuple.__mul__» ⟨[.ref q, .int 1 tt], []⟩) (fun _ R z => z.heap.get? q = some { cls := .type "tuple", dict := dd, data := .seq us m, slots := sl } ∧ R (.ok (.ret (Value.ref q))) z) :=
  .of_wp fun prog w A R z h => by
    obtain ⟨hp0, gg, dr, tk, oo⟩ := z
    obtain ⟨hl, h⟩ := h
    have f1 := AutoSeq1.idx_int
    wp_walk using AutoSeq1.wpAny_loadPart' hl
    exact ⟨_, rfl, h⟩
section
variable {X : Cx} {C : Addr} {M : Option Tp} {env : Env} {a b : Expr} {pos : Pos}
theorem op_once : OpR X (binaryOp .Mult) (fun x y H Q => ∃ l xs, x = .ref l ∧ y = .int 1 ∧ SqT X.K H l xs ∧ xs ≠ [] ∧ Q (.ref l) H) := by
  intro pins z σ H x y vv uu Q I rx ry h
  obtain ⟨l, xs, ex, ey, hT, hne, hq⟩ := h
  subst ex
  subst ey
  cases rx
  obtain ⟨tt, et⟩ := ry
  subst et
  obtain ⟨its, r, ⟨⟨kl, dd, dt, sl⟩, ho, hc, n, hd⟩, hs⟩ := I.tuple hT
  have hc : kl = .type "tuple" := hc
  have hd : dt = .seq its.toArray n := hd
  subst hc
  subst hd
  have hemp : its.toArray.isEmpty = false := by
    cases r with
    | nil => exact absurd rfl hne
    | cons _ _ => rfl
  refine wpAny_binaryOp_repeat_ref (T := "tuple") (U := "int") (by decide) ⟨_, ho, rfl⟩ (fun s2 => typeIs_int s2 1 tt) noFill_tuple_mul F.fills_int_mul F.slot_int_rmul repeat_tuple F.slot_int_index.lookup ?_
  refine call_meets F.slot_int_rmul (typeIs_int z 1 tt) F.entry_int_rmul (F.args_int_rmul_2 _ _) (int_rmul_tuple 1 tt l its.toArray n dd sl) ⟨ho, rfl, ⟨_, ho, rfl⟩, ?_⟩
  refine call_meets F.slot_tuple_mul ⟨_, ho, rfl⟩ F.entry_tuple_mul (F.args_tuple_mul_2 _ _) (mul_once l its.toArray n tt dd sl hemp) ⟨ho, ?_⟩
  exact ⟨.ref l, H, I, rfl, hq⟩
theorem de_rep {Q : D → Prop} (h : DE X C M a env fun x => DE X C M b env fun y => ∃ (d : D) (k : Nat), x = .tup [d] ∧ y = .int (k : Nat) ∧ 1 ≤ k ∧ k ≤ 1000 ∧ Q (.tup (List.replicate k d))) : DE X C M (.BinOp a .Mult b pos) env Q := by
  refine de_op (r := fun x y H Q => (∃ l xs, x = .ref l ∧ y = .int 1 ∧ SqT X.K H l xs ∧ xs ≠ [] ∧ Q (.ref l) H) ∨ rRepT X.K x y H Q) (fun pins z σ H x y v u Q I rx ry h => ?_) (h.imp fun x hx => hx.imp fun y ⟨d, k, ex, ey, k1, k2, q⟩ v u H gd r1 r2 Q' l => ?_)
  · rcases h with h | h
    · exact op_once pins z σ H x y v u Q I rx ry h
    · exact op_repT pins z σ H x y v u Q I rx ry h
  · subst ex
    subst ey
    cases r2
    cases r1 with
    | @tup al xs _ hs hr =>
    cases hr with
    | @cons v0 vs _ _ c1 c2 =>
    cases c2
    by_cases hk : k = 1
    · subst hk
      exact .inl ⟨al, [v0], rfl, rfl, hs, by simp, l _ _ H (Keep.refl gd) (.tup hs (.cons c1 .nil)) q⟩
    · refine .inr ⟨al, (k : Int), [v0], rfl, rfl, hs, by simp, by omega, by omega, by simp, fun p np => ?_⟩
      have kn := Keep.new (M := M) (o := .tup (List.replicate (k : Int).toNat [v0]).flatten) gd np
      have e : ∀ m : Nat, (List.replicate m [v0]).flatten = List.replicate m v0 := fun m => by
        induction m with
        | zero => rfl
        | succ m ih => rw [List.replicate_succ, List.flatten_cons, ih]; rfl
      have ra : ∀ m : Nat, RpAll X.K C (upd H p (.tup (List.replicate (k : Int).toNat [v0]).flatten)) (List.replicate m v0) (List.replicate m d) := fun m => by
        induction m with
        | zero => exact .nil
        | succ m ih => exact .cons (kn.rp c1) ih
      refine l _ _ _ kn (.tup (.inl (.inl upd_same)) ?_) q
      rw [e, Int.toNat_natCast]
      have := ra k
      rw [e, Int.toNat_natCast] at this
      exact this
end
end WK
set_option maxRecDepth 100000
set_option maxHeartbeats 4000000
namespace WK
open PySem PySem.Spec PyProof.Rows L2
open LK (S3 MK Msg Cfg Cache Serv Home Sys)
section
variable {P : Program} {w : World} {K : PySem.W.Frag} {mg : Str → Option Value} {base : Heap} {C : Addr}
theorem dss_then {X : Cx} {M : Option Tp} {env : Env} {st : Stmt} {rest : List Stmt} {Pn : Env → Prop} {σ : L2.St} {H : Hp} {De : Ends} (g : Good X.K M H) (s : StR X.K C H σ env) (h : DS X C M st env { nx := Pn, rt := fun _ => False })
    (k : ∀ σ' env' H', Keep X.K M H H' → StR X.K C H' σ' env' → Pn env' → wSs X rest De σ' H') : wSs X (st :: rest) De σ H := fun pins sh I =>
  (pss_cons pS pSs).run pins sh σ H De I (h σ H g s _ ⟨fun σ' e' H' kk ss q => k σ' e' H' kk ss q, fun _ _ _ _ _ q => q.elim, fun _ _ _ _ _ q => q.elim, fun _ _ _ _ _ q => q.elim⟩)
theorem dl_disp {X : Cx} {M : Option Tp} {env : Env} {es : List Expr} {pos : Pos} {Q : List D → Prop} (h : DA X C M es env fun ds => ds.length ≤ 100000 ∧ Q ds) : DL X C M (.List es pos) env Q :=
  dl_of (pe_lst pA) fun σ H g s Q' l => h σ H g s _ fun vs ds H1 k1 r1 ⟨hl, q⟩ => ⟨le_line (by rw [r1.length]; exact hl), fun p np => by
    have k2 := Keep.new (M := M) (o := .lst vs) k1.good np
    exact l p vs ds _ (k1.trans k2) (k1.fresh np) upd_same (k2.rps r1) q⟩
theorem de_list {X : Cx} {M : Option Tp} {env : Env} {e : Expr} {p pos : Pos} {Q : D → Prop} (hg : Gl X "list") (hm : X.mg "list" = none) (h : DE X C M e env fun x => ∃ ns, x = .ilst ns ∧ Q (.ilst ns)) (he : starEach [e] X.env = [(false, eval e X.env)] := by rfl) : DE X C M (.Call (.Name "list" p) [e] [] pos) env Q :=
  de_of (pe_callTy call_list_of hg hm PyProof.Rows.boot_list (pa_cons pE pa_nil (hs := he)) (he := he)) fun σ H g s Q' l => h σ H g s _ fun v x H1 k1 r1 ⟨ns, e, q⟩ => by
    subst e
    cases r1 with
    | @ilst a' _ hq =>
    refine ⟨a', _, rfl, .inl hq, fun t nt => ?_⟩
    have k2 := Keep.new (M := M) (o := .lst (ns.map V.int)) k1.good nt
    exact l _ _ _ (k1.trans k2) (.ilst (.inl (.inl upd_same))) q
theorem ret_list {X : Cx} {M : Option Tp} {env : Env} {e : Expr} {pos : Pos} {Q : List D → Prop} {σ : L2.St} {H : Hp} {De : Ends} (g : Good X.K M H) (s : StR X.K C H σ env) (h : DL X C M e env Q)
    (k : ∀ p vs ds H', Keep X.K M H H' → H p = none → H' p = some (.lst vs) → RpAll X.K C H' vs ds → Q ds → De.rt (.ref p) H') : wSs X [.Return (some e) pos] De σ H := fun pins sh I =>
  (pss_cons (ps_ret pE) pss_nil).run pins sh σ H De I (h σ H g s _ k)
theorem de_blob {X : Cx} {M : Option Tp} {env : Env} {e : Expr} {Q : D → Prop} (h : DE X C M e env fun d => ∃ xs, d = .tup xs ∧ Q (.blob xs.length)) : DE X C M e env Q := fun σ H g s Q' l => h σ H g s _ fun v d H1 k1 r1 ⟨xs, e, q⟩ => by
  subst e
  cases r1 with
  | tup h1 h2 => exact l _ _ H1 k1 (.blob h1 h2.length) q
/-! ### _law_tape -/
theorem v29__law_script : VarOk (defScope (topS 29)) "_law_script" := ⟨.inl rfl, by decide, by decide⟩
theorem v29__law_total : VarOk (defScope (topS 29)) "_law_total" := ⟨.inl rfl, by decide, by decide⟩
theorem v29__law_cell : VarOk (defScope (topS 29)) "_law_cell" := ⟨.inl rfl, by decide, by decide⟩
theorem sc_law_tape : FnScope ["_law_script", "_law_total", "_law_cell"] ["_law_script"] (defScope (topS 29)) := ⟨rfl, rfl, rfl, by decide +kernel, rfl, by decide +kernel, by decide +kernel⟩
def spTape (K : PySem.W.Frag) : Sp := fun vs H Q _ => ∃ (a : Addr) (ns : List Int), vs = [.ref a] ∧ SqL K H a (ns.map V.int) ∧ ∀ u H', Same H H' → H u.a = none → IsTape K H' u → Q (.ref u.a) H'
theorem ok_law_tape {f : Addr} {fd : FuncData} (D1 : Dfn K mg "_law_tape" (topS 29) ["_law_script"] f fd) (T : TCfg K C mg) : Has P w K mg base 1 "_law_tape" ["_law_script"] (spTape K) := by
  refine has_of D1 (D1.F.ok sc_law_tape (fun vs H Q E ⟨_, _, e, _⟩ => by rw [e]; rfl) fun cdv A outer s H vs Q E hr ⟨a, ns, eq, hs, hQ⟩ => ⟨_, pSs, ?_⟩)
  subst eq
  have st0 : StR K C H (L2.start ["_law_script", "_law_total", "_law_cell"] [.ref a]) (startE ["_law_script", "_law_total", "_law_cell"] [.ilst ns]) := str_start (.cons (.ilst hs) .nil)
  refine dss_then (X := (cxOf CX0 P w K mg base ["_law_script", "_law_total", "_law_cell"] "_law_tape" (defScope (topS 29)) f cdv A outer s H E).nox) (M := none) (env := [some (.ilst ns), none, none]) (Pn := fun env' => env' = [some (.ilst ns), some (.int 7), none]) trivial st0 ?_ ?_
  · exact (ds_set 1 sc_law_tape.nd rfl (.inl rfl) (de_int rfl))
  intro σ1 env1 H1 k1 s1 e1
  subst e1
  refine dss_then (X := (cxOf CX0 P w K mg base ["_law_script", "_law_total", "_law_cell"] "_law_tape" (defScope (topS 29)) f cdv A outer s H E).nox) (M := none) (Pn := fun env' => ∃ (t : Int) (d : Option D), env' = [some (.ilst ns), some (.int t), d] ∧ 0 ≤ t ∧ t < 2147483647) trivial s1 ?_ ?_
  · refine ds_forL 2 (fun j env' => ∃ (t : Int) (d : Option D), env' = [some (.ilst ns), some (.int t), d] ∧ 0 ≤ t ∧ t < 2147483647) PassesOwn.never rfl sc_law_tape.nd rfl (.inl rfl) (de_v 0 rfl rfl v29__law_script ⟨_, rfl, ⟨_, _, rfl, by omega, by omega⟩, ?_, fun env2 h2 => h2⟩)
    intro j env2 n ⟨t, d, he, t0, t1⟩ hn
    subst he
    refine dss_env (env' := [_, _, _]) rfl ?_
    refine dss_cons (ds_set 1 sc_law_tape.nd rfl (.inl rfl) (de_mod (de_intc rfl T.no_int (de_add (de_mul (de_v 1 rfl rfl v29__law_total (de_int ⟨_, _, rfl, rfl, .inr ⟨by omega, by omega⟩, (de_abs rfl T.no_abs (de_intc rfl T.no_int (de_v 2 rfl rfl v29__law_cell ⟨_, rfl, ⟨_, rfl, ⟨_, _, rfl, rfl, ⟨_, rfl, (de_int ⟨_, _, rfl, rfl, by omega, (dss_env (env' := [_, _, _]) rfl ?_)⟩)⟩⟩⟩⟩)))⟩)))))))
    exact dss_nil ⟨_, _, rfl, Int.emod_nonneg _ (by decide), Int.emod_lt_of_pos _ (by decide)⟩
  intro σ2 env2 H2 k2 s2 ⟨t, d, he, t0, t1⟩
  subst he
  refine ret_list (X := (cxOf CX0 P w K mg base ["_law_script", "_law_total", "_law_cell"] "_law_tape" (defScope (topS 29)) f cdv A outer s H E).nox) (M := none) (Q := fun ds => ds = [.ilst ns, .int 0, .int 0, .int t]) trivial s2 (dl_disp (da_cons (de_list rfl T.no_list (de_v 0 rfl rfl v29__law_script ⟨_, rfl, (da_cons (de_int (da_cons (de_int (da_cons (de_v 1 rfl rfl v29__law_total (da_nil ⟨Nat.le_of_ble_eq_true rfl, rfl⟩)))))))⟩)))) ?_
  intro p vs ds H3 k3 np hp hr3 e3
  subst e3
  have kk : Same H H3 := (k1.trans k2).trans k3
  cases hr3 with
  | cons c1 hr3 =>
  cases hr3 with
  | cons c2 hr3 =>
  cases hr3 with
  | cons c3 hr3 =>
  cases hr3 with
  | cons c4 hr3 =>
  cases hr3; cases c2; cases c3; cases c4
  cases c1 with
  | @ilst L _ hL =>
  exact hQ ⟨p, L, ns⟩ H3 kk ((k1.trans k2).fresh np) ⟨0, 0, t, hp, hL, by omega, by omega, t0, t1⟩
end
end WK
set_option maxRecDepth 100000
set_option maxHeartbeats 4000000
namespace WK
open PySem PySem.Spec PyProof.Rows L2
open LK (S3 MK Msg Cfg Cache Serv Home Sys)
section
variable {P : Program} {w : World} {K : PySem.W.Frag} {mg : Str → Option Value} {base : Heap} {C : Addr}
theorem next_inv {n size : Nat} {g : Cfg} {s t : Sys} {a : LK.Act} (Z : SetOk n size g) (I : LK.Inv n size g s) (h : nextS g s a = some t) : LK.Inv n size g t ∧ LK.pot 8 LK.F3 t ≤ LK.pot 8 LK.F3 s + 8 := by
  have hP : LK.PotOk 8 LK.F3 n := LK.pot8 Z.n4
  cases a with
  | deliver i =>
    have h : (if i ∈ LK.delivIdx s then LK.delivered g s i else none) = some t := h
    by_cases hi : i ∈ LK.delivIdx s
    · rw [if_pos hi] at h
      have rn := LK.Run.step (.nil (g := g) (s := s)) hi h
      have h2 := rn.pot I hP
      exact ⟨rn.inv I, by omega⟩
    · rw [if_neg hi] at h; cases h
  | evict k l =>
    have h := LK.act2_inv I (k := k) (l := l) (e := none) h
    exact ⟨h.1, h.2 8 LK.F3 hP⟩
  | request k l e =>
    have h := LK.act2_inv I (k := k) (l := l) (e := some e) h
    exact ⟨h.1, h.2 8 LK.F3 hP⟩
/-! ### law -/
theorem v39__law_tape_here : VarOk (defScope (topS 39)) "_law_tape_here" := ⟨.inl rfl, by decide, by decide⟩
theorem v39__law_world_here : VarOk (defScope (topS 39)) "_law_world_here" := ⟨.inl rfl, by decide, by decide⟩
theorem v39__law_config_here : VarOk (defScope (topS 39)) "_law_config_here" := ⟨.inl rfl, by decide, by decide⟩
theorem v39__law_system : VarOk (defScope (topS 39)) "_law_system" := ⟨.inl rfl, by decide, by decide⟩
theorem v39__law_told : VarOk (defScope (topS 39)) "_law_told" := ⟨.inl rfl, by decide, by decide⟩
theorem sc_law : FnScope ["_law_script", "_law_tape_here", "_law_world_here", "_law_config_here", "_law_system", "_law_k", "_law_told"] ["_law_script"] (defScope (topS 39)) := ⟨rfl, rfl, rfl, by decide +kernel, rfl, by decide +kernel, by decide +kernel⟩
def spLaw (K : PySem.W.Frag) : Sp := fun us H Q _ => ∃ (a : Addr) (ns : List Int), us = [.ref a] ∧ SqL K H a (ns.map V.int) ∧ ns.length ≤ 63 ∧ ∀ H', Q (.bl true) H'
theorem ok_law {f : Addr} {fd : FuncData} (D1 : Dfn K mg "law" (topS 39) ["_law_script"] f fd) (T : TCfg K C mg) (h__law_draw : Has P w K mg base 1 "_law_draw" ["_law_tape_here", "_law_many"] (SpT K C sdDraw)) (h__law_tape : Has P w K mg base 1 "_law_tape" ["_law_script"] (spTape K)) (h__law_world : Has P w K mg base 2 "_law_world" ["_law_tape_here"] (SpT K C sdWorld)) (h__law_config : Has P w K mg base 3 "_law_config" ["_law_tape_here", "_law_world_here"] (SpT K C sdConf)) (h_start_system : Has P w K mg base 1 "start_system" ["program", "config"] (SpP K C sdStart)) (h__law_fresh : Has P w K mg base 2 "_law_fresh" ["_law_tape_here", "_law_many"] (SpT K C sdFresh)) (h_next_system : Has P w K mg base 5 "next_system" ["config", "system", "action"] (SpP K C sdNext)) (h__law_action : Has P w K mg base 2 "_law_action" ["_law_tape_here", "_law_system", "_law_world_here"] (SpT K C sdAct)) (h__law_settled : Has P w K mg base 6 "_law_settled" ["_law_tape_here", "_law_config_here", "_law_system", "_law_mixed"] (SpT K C sdSett)) (h__law_wanted : Has P w K mg base 7 "_law_wanted" ["_law_tape_here", "_law_config_here", "_law_system", "_law_world_here"] (SpT K C sdWant)) : FnOk P w K mg base CX0 9 f fd ["_law_script"] (spLaw K) := by
  refine D1.F.ok sc_law (fun vs H Q E ⟨_, _, e, _⟩ => by rw [e]; rfl) fun cdv A outer s H vs Q E hr ⟨a, ns, eq, hs, hlen, hQ⟩ => ⟨_, pSs, ?_⟩
  subst eq
  intro pins sh I0
  obtain ⟨ft, fdt, hmt, hkt, hbt, Ft⟩ := h__law_tape.ex
  refine (pss_cons (ps_set (i := 1) sc_law.nd rfl (.inl rfl) (pe_call (E := E0) Ft (hr.mono (by decide)) (by rfl) hmt hkt hbt .nil pass0 (pa_cons (pv 0) pa_nil))) pSs).run pins sh _ H _ I0 ?_
  refine ⟨.ref a, rfl, a, ns, rfl, hs, fun u H1 k1 nu gt => ?_⟩
  have main : DSs (cxOf CX0 P w K mg base ["_law_script", "_law_tape_here", "_law_world_here", "_law_config_here", "_law_system", "_law_k", "_law_told"] "law" (defScope (topS 39)) f cdv A outer s H E).nox C (some u) ((defBody (topS 39)).drop 1) [none, some (.adr u.a), none, none, none, none, none] { nx := fun _ => False, rt := fun d => d = .bl true } := by
    refine dss_cons (ds_set 2 sc_law.nd rfl (.inl rfl) (de_callHT h__law_world (hr.mono (by decide)) rfl (da_cons (de_v 1 rfl rfl v39__law_tape_here (da_nil ⟨_, rfl, rfl, fun W zW => (dss_env (env' := [_, _, _, _, _, _, _]) rfl ?_)⟩)))))
    have z : WOk W := zW
    have zc := z.c
    have zs := z.sz
    have zw := z.wd
    have zm := z.my
    have Z := set_of z
    refine dss_cons (ds_set 3 sc_law.nd rfl (.inl rfl) (de_callHT h__law_config (hr.mono (by decide)) rfl (da_cons (de_v 1 rfl rfl v39__law_tape_here (da_cons (de_v 2 rfl rfl v39__law_world_here (da_nil ⟨_, rfl, _, rfl, (dss_env (env' := [_, _, _, _, _, _, _]) rfl ?_)⟩)))))))
    refine dss_cons (ds_set 4 sc_law.nd rfl (.inl rfl) (de_callH h_start_system (hr.mono (by decide)) rfl (da_cons (de_tup (da_cons (de_tup (da_cons (de_tup (da_cons (de_str (da_nil ⟨Nat.le_of_ble_eq_true rfl, (da_nil ⟨Nat.le_of_ble_eq_true rfl, ?_⟩)⟩)))))))))))
    refine da_cons (de_rep (de_tup (da_cons (de_int (da_nil ⟨Nat.le_of_ble_eq_true rfl, ?_⟩)))))
    refine (de_ix (de_v 2 rfl rfl v39__law_world_here (de_int ⟨_, _, rfl, rfl, ⟨_, _, rfl, rfl, zc.1, by omega, ?_⟩⟩)))
    refine da_cons (de_blob (de_callHT h__law_fresh (hr.mono (by decide)) rfl (da_cons (de_v 1 rfl rfl v39__law_tape_here (da_cons (de_ix (de_v 2 rfl rfl v39__law_world_here (de_int ⟨_, _, rfl, rfl, (da_nil ⟨_, rfl, _, rfl, by omega, fun xs hxs => ⟨xs, rfl, ?_⟩⟩)⟩))))))))
    refine da_nil ⟨Nat.le_of_ble_eq_true rfl, ?_⟩
    refine (da_cons (de_v 3 rfl rfl v39__law_config_here (da_nil ⟨_, _, _, _, rfl, by rw [List.length_replicate]; omega, by omega, z.wd.1, by show W.wd ≤ 1000; omega, ?_⟩)))
    rw [List.length_replicate, hxs]
    have J0 := LK.inv_start W.c W.sz W.g
    have P0 := LK.pot_start 8 (F := LK.F3) rfl W.c W.sz W.g
    generalize LK.start W.c W.sz W.g = y0 at J0 P0
    refine dss_env (env' := [_, _, _, _, _, _, _]) rfl ?_
    refine dss_cons (ds_forR 5 (fun j env' => ∃ (t : Sys) (d5 d6 : Option D), LK.Inv W.c W.sz W.g t ∧ LK.pot 8 LK.F3 t ≤ 8 * j ∧ env' = [none, some (.adr u.a), some (worldD W), some (.cfg W.g), some (sysD t), d5, d6]) PassesOwn.never rfl sc_law.nd rfl (.inl rfl) rfl T.no_range (de_callHT h__law_draw (hr.mono (by decide)) rfl (da_cons (de_v 1 rfl rfl v39__law_tape_here (da_cons (de_int (da_nil ⟨_, rfl, 25, rfl, by first | omega | (simp only [List.length_map]; omega), fun n3 h3 => ⟨_, rfl, by omega, ⟨y0, _, _, J0, by omega, rfl⟩, ?_, ?_⟩⟩)))))))
    · intro j env' hj ⟨t, d5, d6, It, hpt, he⟩
      subst he
      have hnn := net_few Z (s := t) (by omega)
      have ok := sys_ok Z It hnn
      have hcs := ok.cs
      have z1 := Z.size
      refine dss_env (env' := [_, _, _, _, _, _, _]) rfl ?_
      refine dss_cons (ds_set 6 sc_law.nd rfl (.inl rfl) (de_callH h_next_system (hr.mono (by decide)) rfl (da_cons (de_v 3 rfl rfl v39__law_config_here (da_cons (de_v 4 rfl rfl v39__law_system (da_cons (de_callHT h__law_action (hr.mono (by decide)) rfl (da_cons (de_v 1 rfl rfl v39__law_tape_here (da_cons (de_v 4 rfl rfl v39__law_system (da_cons (de_v 2 rfl rfl v39__law_world_here (da_nil ⟨_, rfl, _, _, rfl, z, It.nc, hnn, hcs, fun a => (da_nil ⟨_, _, a, rfl, ok, fun t2 ht2 => ⟨net_few Z (by have := (next_inv Z It ht2).2; omega), by rw [(next_inv Z It ht2).1.mem]; omega⟩, fun i _ hi => LK.delivered_some It hi, (dss_env (env' := [_, _, _, _, _, _, _]) rfl ?_)⟩)⟩)))))))))))))))
      cases hnx : nextS W.g t a with
      | none =>
        refine dss_cons (ds_if (dt_notN (de_v 6 rfl rfl v39__law_told ?_)))
        refine dss_nil (dss_nil ⟨t, _, _, It, by omega, rfl⟩)
      | some t2 =>
        have hn2 := next_inv Z It hnx
        refine dss_cons (ds_if (dt_notN (de_v 6 rfl rfl v39__law_told ?_)))
        refine dss_cons (ds_set 4 sc_law.nd rfl (.inl rfl) (de_v 6 rfl rfl v39__law_told (dss_env (env' := [_, _, _, _, _, _, _]) rfl ?_)))
        refine dss_nil (dss_nil ⟨t2, _, _, hn2.1, by omega, rfl⟩)
    · intro env' ⟨t, d5, d6, I1, hpt, he⟩
      subst he
      have hp200 : LK.pot 8 LK.F3 t ≤ 200 := by omega
      refine dss_cons (ds_set 4 sc_law.nd rfl (.inl rfl) (de_ix (de_callHT h__law_settled (hr.mono (by decide)) rfl (da_cons (de_v 1 rfl rfl v39__law_tape_here (da_cons (de_v 3 rfl rfl v39__law_config_here (da_cons (de_v 4 rfl rfl v39__law_system (da_cons (de_bl (da_nil ⟨_, rfl, _, _, _, _, _, rfl, Z, I1, hp200, fun j3 t3 rn hq3 => (de_int ⟨_, _, rfl, rfl, (dss_env (env' := [_, _, _, _, _, _, _]) rfl ?_)⟩)⟩))))))))))))
      have I3 := rn.inv I1
      refine dss_cons (ds_forR 5 (fun j env' => ∃ (t : Sys) (d5 d6 : Option D), LK.Inv W.c W.sz W.g t ∧ t.net = [] ∧ env' = [none, some (.adr u.a), some (worldD W), some (.cfg W.g), some (sysD t), d5, d6]) PassesOwn.never rfl sc_law.nd rfl (.inl rfl) rfl T.no_range (de_add (de_int (de_callHT h__law_draw (hr.mono (by decide)) rfl (da_cons (de_v 1 rfl rfl v39__law_tape_here (da_cons (de_int (da_nil ⟨_, rfl, 4, rfl, by first | omega | (simp only [List.length_map]; omega), fun n6 h6 => ?_⟩)))))))))
      refine ⟨_, _, rfl, rfl, 1 + n6, congrArg D.int (by omega), by omega, ⟨t3, _, _, I3, hq3, rfl⟩, ?_, ?_⟩
      · intro j env' hj ⟨t, d5, d6, It, hqt, he⟩
        subst he
        refine dss_env (env' := [_, _, _, _, _, _, _]) rfl ?_
        refine dss_cons (ds_set 4 sc_law.nd rfl (.inl rfl) (de_callHT h__law_wanted (hr.mono (by decide)) rfl (da_cons (de_v 1 rfl rfl v39__law_tape_here (da_cons (de_v 3 rfl rfl v39__law_config_here (da_cons (de_v 4 rfl rfl v39__law_system (da_cons (de_v 2 rfl rfl v39__law_world_here (da_nil ⟨_, rfl, _, _, rfl, z, It, hqt, fun t2 It2 hq2 => (dss_env (env' := [_, _, _, _, _, _, _]) rfl ?_)⟩)))))))))))
        refine dss_cons (ds_if (dt_isN (de_v 4 rfl rfl v39__law_system ?_)))
        refine dss_nil (dss_nil ⟨t2, _, _, It2, hq2, rfl⟩)
      · intro env' ⟨t, d5, d6, It, hqt, he⟩
        subst he
        exact dss_cons (ds_ret (de_bl rfl))
  refine main (L2.start ["_law_script", "_law_tape_here", "_law_world_here", "_law_config_here", "_law_system", "_law_k", "_law_told"] [.ref a] |>.set 1 (some (.ref u.a))) H1 gt ⟨rfl, fun i d e => ?_⟩ _ ⟨fun _ _ _ _ _ q => q.elim, fun v d H' kk rv e => ?_, fun _ _ _ _ _ q => q.elim, fun _ _ _ _ _ q => q.elim⟩
  · match i with
    | 0 => cases e
    | 1 => cases e; exact ⟨_, rfl, .adr _⟩
    | 2 => cases e
    | 3 => cases e
    | 4 => cases e
    | 5 => cases e
    | 6 => cases e
    | i + 7 => cases e
  · subst e
    cases rv
    exact hQ H'
end
end WK
set_option maxRecDepth 100000
set_option maxHeartbeats 4000000
/-! The text's defs as they stand behind the top. -/
namespace WK
open PySem PySem.Spec PyProof.Rows L2
open LK (S3 MK Msg Cfg Cache Serv Home Sys)
section
variable {K : PySem.W.Frag} {mg : Str → Option Value} {h : Heap} {C : Addr}
def DEx (K : PySem.W.Frag) (mg : Str → Option Value) (x : Str) (st : Stmt) (ps : List Str) : Prop := ∃ (f : Addr) (fd : FuncData), Dfn K mg x st ps f fd
theorem dfn_mk {x : Str} {st : Stmt} {ps : List Str} {f : Addr} {oc kV doc pm cdv ct : Value} {od an : Option Addr} {osl : Array (Option Value)} (X : K.In h) (G : h.Ns mainGlobals mg) (a : PySem.W.nsIn K mainGlobals x = some (some (.ref f)))
    (l : K.lookup f = some ⟨oc, od, .func (PySem.W.fnOf x x (defArgs st) (defBody st) (defScope st) .none kV doc pm an cdv ct), osl⟩) (c : PySem.W.codeIn K cdv x = true) (k : PySem.W.keepIn K (.ref f) = true)
    (hb : ∀ (kV doc pm : Value) (an : Option Addr) (cdv ct : Value) (us : List Value), us.length = ps.length → bindArgs (PySem.W.fnOf x x (defArgs st) (defBody st) (defScope st) .none kV doc pm an cdv ct) ⟨us, []⟩ = pure (ps.zip us)) : DEx K mg x st ps :=
  ⟨f, _, fun_mk l c k, PySem.W.mg_of X G a, (fun_mk l c k).binds hb⟩
theorem tupK {a : Addr} {od : Option Addr} {its : Array Value} {n : Nat} {sl : Array (Option Value)} {xs : List V} (l : K.lookup a = some ⟨.type "tuple", od, .seq its n, sl⟩) (hz : its.size ≤ 1000) (r : Vals xs its.toList) (H : Hp) : SqT K H a xs :=
  .inr ⟨_, its, n, l, rfl, rfl, Nat.le_trans hz (by decide), r⟩
theorem glb_cache {a b1 b2 b3 : Addr} {od o1 o2 o3 : Option Addr} {n n1 n2 n3 : Nat} {sl s1 s2 s3 : Array (Option Value)} (X : K.In h) (G : h.Ns mainGlobals mg) (hx : PySem.W.nsIn K mainGlobals "EMPTY_CACHE" = some (some (.ref a)))
    (l : K.lookup a = some ⟨.type "tuple", od, .seq #[.ref b1, .ref b2, .ref b3] n, sl⟩) (l1 : K.lookup b1 = some ⟨.type "tuple", o1, .seq #[] n1, s1⟩) (l2 : K.lookup b2 = some ⟨.type "tuple", o2, .seq #[] n2, s2⟩) (l3 : K.lookup b3 = some ⟨.type "tuple", o3, .seq #[] n3, s3⟩) : ∀ C, Glb K C mg "EMPTY_CACHE" (cacheD ⟨[], [], []⟩) := fun C =>
  ⟨.ref a, .ref a, PySem.W.mg_of X G hx, rfl, fun H => .tup (tupK (xs := [.ref b1, .ref b2, .ref b3]) l (by show 3 ≤ 1000; decide) (.cons rfl (.cons rfl (.cons rfl .nil))) H) (.cons (.tup (tupK l1 (by decide) .nil H) .nil) (.cons (.tup (tupK l2 (by decide) .nil H) .nil) (.cons (.tup (tupK l3 (by decide) .nil H) .nil) .nil)))⟩
theorem glb_home {a b : Addr} {od o1 : Option Addr} {n n1 : Nat} {sl s1 : Array (Option Value)} (X : K.In h) (G : h.Ns mainGlobals mg) (hx : PySem.W.nsIn K mainGlobals "START_HOME" = some (some (.ref a)))
    (l : K.lookup a = some ⟨.type "tuple", od, .seq #[.none, .ref b, .none] n, sl⟩) (l1 : K.lookup b = some ⟨.type "tuple", o1, .seq #[] n1, s1⟩) : ∀ C, Glb K C mg "START_HOME" (homeD ⟨none, [], none⟩) := fun C =>
  ⟨.ref a, .ref a, PySem.W.mg_of X G hx, rfl, fun H => .tup (tupK (xs := [.non, .ref b, .non]) l (by show 3 ≤ 1000; decide) (.cons rfl (.cons rfl (.cons rfl .nil))) H) (.cons .non (.cons (.tup (tupK l1 (by decide) .nil H) .nil) (.cons .non .nil)))⟩
theorem glb_waits {a : Addr} {od : Option Addr} {n : Nat} {t1 t2 t3 : Tok} {sl : Array (Option Value)} (X : K.In h) (G : h.Ns mainGlobals mg) (hx : PySem.W.nsIn K mainGlobals "WAITS_FOR_SERVICE" = some (some (.ref a)))
    (l : K.lookup a = some ⟨.type "tuple", od, .seq #[.str "get shared" t1, .str "get modified" t2, .str "give up" t3] n, sl⟩) : ∀ C, Glb K C mg "WAITS_FOR_SERVICE" (.tup [.str "get shared", .str "get modified", .str "give up"]) := fun C =>
  ⟨.ref a, .ref a, PySem.W.mg_of X G hx, rfl, fun H => .tup (tupK (xs := [.str _, .str _, .str _]) l (by show 3 ≤ 1000; decide) (.cons ⟨_, rfl⟩ (.cons ⟨_, rfl⟩ (.cons ⟨_, rfl⟩ .nil))) H) (.cons (.str _) (.cons (.str _) (.cons (.str _) .nil)))⟩
theorem glb_to {a : Addr} {od : Option Addr} {n : Nat} {t1 t2 t3 t4 : Tok} {sl : Array (Option Value)} (X : K.In h) (G : h.Ns mainGlobals mg) (hx : PySem.W.nsIn K mainGlobals "TO_CACHES" = some (some (.ref a)))
    (l : K.lookup a = some ⟨.type "tuple", od, .seq #[.str "invalidate" t1, .str "recall" t2, .str "grant" t3, .str "confirm" t4] n, sl⟩) : ∀ C, Glb K C mg "TO_CACHES" (.tup [.str "invalidate", .str "recall", .str "grant", .str "confirm"]) := fun C =>
  ⟨.ref a, .ref a, PySem.W.mg_of X G hx, rfl, fun H => .tup (tupK (xs := [.str _, .str _, .str _, .str _]) l (by show 4 ≤ 1000; decide) (.cons ⟨_, rfl⟩ (.cons ⟨_, rfl⟩ (.cons ⟨_, rfl⟩ (.cons ⟨_, rfl⟩ .nil)))) H) (.cons (.str _) (.cons (.str _) (.cons (.str _) (.cons (.str _) .nil))))⟩
def cfgKws : List (Str × V) := [("reorder_buffer", .int 4), ("store_buffer", .int 2)]
def CEx (K : PySem.W.Frag) (mg : Str → Option Value) : Prop := ∃ (C f : Addr) (fd : FuncData) (mv : List Value), TCfg K C mg ∧ TNew K C mg f ∧ FunD K "__init__" "Config.__init__" (defArgs sCfg) (defBody sCfg) (defScope sCfg) [] cfgKws f fd ∧ KBn K fd cfgPs 2 cfgKs (fun us ws => us ++ (mv ++ ws)) (fun vs zs => vs ++ ([.int 4, .int 2] ++ zs))
theorem cfg_mk {C f D : Addr} {oc doc pm cdv ct : Value} {od an : Option Addr} {osl : Array (Option Value)} {t1 t2 : Tok} (X : K.In h) (G : h.Ns mainGlobals mg)
    (aC : PySem.W.nsIn K mainGlobals "Config" = some (some (.ref C))) (a1 : PySem.W.findIn K (.ref C) "__init__" = some (some (.ref f))) (i1 : PySem.W.isFn K (.ref f) = true) (l1 : K.lookup f = some ⟨oc, od, .func (PySem.W.fnOf "__init__" "Config.__init__" (defArgs sCfg) (defBody sCfg) (defScope sCfg) .none (.ref D) doc pm an cdv ct), osl⟩) (c1 : PySem.W.codeIn K cdv "Config.__init__" = true) (k1 : PySem.W.keepIn K (.ref f) = true)
    (d1 : PySem.W.nsIn K D "reorder_buffer" = some (some (.int 4 t1))) (d2 : PySem.W.nsIn K D "store_buffer" = some (some (.int 2 t2)))
    (pg : PySem.W.plainGet K C Str.empty = true)
    (hd : PySem.W.hasDictIn K C = true) (po : PySem.W.plainOver K C = true) (sa : PySem.W.findIn K (.ref C) "__setattr__" = some (some (.builtin "object.__setattr__"))) (mk : PySem.W.makesIn K C = true) (kc : PySem.W.keepIn K (.ref C) = true)
    (n0 : PySem.W.findIn K (.ref C) "line_words" = some none) (n1 : PySem.W.findIn K (.ref C) "sets" = some none) (n2 : PySem.W.findIn K (.ref C) "ways" = some none) (n3 : PySem.W.findIn K (.ref C) "requests" = some none) (n4 : PySem.W.findIn K (.ref C) "exclusive_state" = some none) (n5 : PySem.W.findIn K (.ref C) "order" = some none) (n6 : PySem.W.findIn K (.ref C) "reorder_buffer" = some none) (n7 : PySem.W.findIn K (.ref C) "store_buffer" = some none)
    (z0 : PySem.W.nsIn K mainGlobals "len" = some none) (z1 : PySem.W.nsIn K mainGlobals "int" = some none) (z2 : PySem.W.nsIn K mainGlobals "abs" = some none) (z3 : PySem.W.nsIn K mainGlobals "max" = some none) (z4 : PySem.W.nsIn K mainGlobals "tuple" = some none) (z5 : PySem.W.nsIn K mainGlobals "range" = some none) (z6 : PySem.W.nsIn K mainGlobals "list" = some none) (z7 : PySem.W.nsIn K mainGlobals "enumerate" = some none) : CEx K mg := by
  have F : FunD K "__init__" "Config.__init__" (defArgs sCfg) (defBody sCfg) (defScope sCfg) [] cfgKws f _ := ⟨⟨oc, od, .none, .ref D, doc, pm, an, cdv, ct, osl, rfl, l1, c1, .inl ⟨rfl, rfl⟩, .inr ⟨D, rfl, fun q hq => by
    rcases List.mem_cons.mp hq with e | hq
    · rw [e]; exact ⟨_, d1, _, rfl⟩
    · rcases List.mem_cons.mp hq with e | hq
      · rw [e]; exact ⟨_, d2, _, rfl⟩
      · cases hq⟩⟩, k1⟩
  obtain ⟨mv, hb⟩ := cfg_binds F (List.mem_cons_self ..) (List.mem_cons_of_mem _ (List.mem_cons_self ..))
  exact ⟨C, f, _, mv, ⟨⟨pg, hd, po, sa⟩, n0, n1, n2, n3, n4, PySem.W.mg_none_of X G z0, PySem.W.mg_none_of X G z1, PySem.W.mg_none_of X G z2, PySem.W.mg_none_of X G z3, PySem.W.mg_none_of X G z4, PySem.W.mg_none_of X G z5, PySem.W.mg_none_of X G z6, PySem.W.mg_none_of X G z7⟩, ⟨n5, n6, n7, ⟨mk, a1, i1, kc⟩, PySem.W.mg_of X G aC⟩, F, hb⟩
end
theorem all_end {l : PySem.W.OpenLaw} {w : World} {K : PySem.W.Frag} {h : Heap} {mg : Str → Option Value} {fa : Addr} (X : K.In h) (G : h.Ns mainGlobals mg) (hfa : mg "law" = some (.ref fa)) (CE : CEx K mg)
    (G1 : ∀ C, Glb K C mg "EMPTY_CACHE" (cacheD ⟨[], [], []⟩)) (G2 : ∀ C, Glb K C mg "START_HOME" (homeD ⟨none, [], none⟩)) (G3 : ∀ C, Glb K C mg "WAITS_FOR_SERVICE" (.tup [.str "get shared", .str "get modified", .str "give up"])) (G4 : ∀ C, Glb K C mg "TO_CACHES" (.tup [.str "invalidate", .str "recall", .str "grant", .str "confirm"]))
    (D2 : DEx K mg "entry_of" (topS 2) ["entries", "line"]) (D3 : DEx K mg "without_line" (topS 3) ["entries", "line"]) (D4 : DEx K mg "with_entry" (topS 4) ["entries", "new"]) (D5 : DEx K mg "occupied_ways" (topS 5) ["config", "cache", "line"]) (D6 : DEx K mg "request_line" (topS 6) ["config", "cache", "core", "line", "exclusive"]) (D7 : DEx K mg "give_up_line" (topS 7) ["cache", "core", "line"]) (D8 : DEx K mg "after_recall" (topS 8) ["cache", "message"]) (D9 : DEx K mg "cache_receives" (topS 9) ["cache", "message"]) (D13 : DEx K mg "can_receive" (topS 13) ["home", "message"]) (D14 : DEx K mg "begun" (topS 14) ["home", "words", "message"]) (D15 : DEx K mg "invalidated" (topS 15) ["home", "sharer"]) (D16 : DEx K mg "returned" (topS 16) ["home", "message"]) (D17 : DEx K mg "grant_if_ready" (topS 17) ["config", "home", "line"]) (D18 : DEx K mg "home_receives" (topS 18) ["config", "home", "words", "message"]) (D21 : DEx K mg "replaced" (topS 21) ["parts", "index", "part"]) (D22 : DEx K mg "start_system" (topS 22) ["program", "config"]) (D23 : DEx K mg "deliverable" (topS 23) ["system"]) (D24 : DEx K mg "delivered" (topS 24) ["config", "system", "index"]) (D25 : DEx K mg "next_system" (topS 25) ["config", "system", "action"]) (D29 : DEx K mg "_law_tape" (topS 29) ["_law_script"]) (D30 : DEx K mg "_law_draw" (topS 30) ["_law_tape_here", "_law_many"]) (D31 : DEx K mg "_law_world" (topS 31) ["_law_tape_here"]) (D32 : DEx K mg "_law_config" (topS 32) ["_law_tape_here", "_law_world_here"]) (D33 : DEx K mg "_law_fresh" (topS 33) ["_law_tape_here", "_law_many"]) (D34 : DEx K mg "_law_action" (topS 34) ["_law_tape_here", "_law_system", "_law_world_here"]) (D35 : DEx K mg "_law_settled" (topS 35) ["_law_tape_here", "_law_config_here", "_law_system", "_law_mixed"]) (D36 : DEx K mg "_law_states" (topS 36) ["_law_cache", "_law_line"]) (D37 : DEx K mg "_law_rivals" (topS 37) ["_law_cache", "_law_line", "_law_many_sets"]) (D38 : DEx K mg "_law_wanted" (topS 38) ["_law_tape_here", "_law_config_here", "_law_system", "_law_world_here"]) (D39 : DEx K mg "law" (topS 39) ["_law_script"]) :
    ∃ fd : FuncData, (∀ (s : Shared) (u : Value), BindsTo s fd ⟨[u], []⟩ [("_law_script", u)]) ∧ ∀ base : Heap, K.In base → base.Ns mainGlobals mg → FnOk l.prog w K mg base CX0 9 fa fd ["_law_script"] (spLaw K) := by
  obtain ⟨C, fi, fdi, mv, T, N, FI, hb⟩ := CE
  have TG : TGlb K C mg := ⟨G1 C, G2 C, G3 C, G4 C⟩
  obtain ⟨f2, fd2, D2⟩ := D2
  obtain ⟨f3, fd3, D3⟩ := D3
  obtain ⟨f4, fd4, D4⟩ := D4
  obtain ⟨f5, fd5, D5⟩ := D5
  obtain ⟨f6, fd6, D6⟩ := D6
  obtain ⟨f7, fd7, D7⟩ := D7
  obtain ⟨f8, fd8, D8⟩ := D8
  obtain ⟨f9, fd9, D9⟩ := D9
  obtain ⟨f13, fd13, D13⟩ := D13
  obtain ⟨f14, fd14, D14⟩ := D14
  obtain ⟨f15, fd15, D15⟩ := D15
  obtain ⟨f16, fd16, D16⟩ := D16
  obtain ⟨f17, fd17, D17⟩ := D17
  obtain ⟨f18, fd18, D18⟩ := D18
  obtain ⟨f21, fd21, D21⟩ := D21
  obtain ⟨f22, fd22, D22⟩ := D22
  obtain ⟨f23, fd23, D23⟩ := D23
  obtain ⟨f24, fd24, D24⟩ := D24
  obtain ⟨f25, fd25, D25⟩ := D25
  obtain ⟨f29, fd29, D29⟩ := D29
  obtain ⟨f30, fd30, D30⟩ := D30
  obtain ⟨f31, fd31, D31⟩ := D31
  obtain ⟨f32, fd32, D32⟩ := D32
  obtain ⟨f33, fd33, D33⟩ := D33
  obtain ⟨f34, fd34, D34⟩ := D34
  obtain ⟨f35, fd35, D35⟩ := D35
  obtain ⟨f36, fd36, D36⟩ := D36
  obtain ⟨f37, fd37, D37⟩ := D37
  obtain ⟨f38, fd38, D38⟩ := D38
  obtain ⟨f39, fd39, D39⟩ := D39
  have e := hfa.symm.trans D39.g
  cases e
  refine ⟨fd39, fun s u => ?_, fun base _ _ => ?_⟩
  · obtain ⟨oc, od, kV, doc, pm, an, cdv, ct, osl, ef, _⟩ := D39.F.ex
    subst ef
    exact .of_eq rfl
  have h_entry_of := ok_entry_of (P := l.prog) (w := w) (base := base) (C := C) D2 
  have h_without_line := ok_without_line (P := l.prog) (w := w) (base := base) (C := C) D3 T.no_tuple 
  have h_with_entry := ok_with_entry (P := l.prog) (w := w) (base := base) (C := C) D4 T.no_tuple 
  have h_occupied_ways := ok_occupied_ways (P := l.prog) (w := w) (base := base) (C := C) D5 T 
  have h_request_line := ok_request_line (P := l.prog) (w := w) (base := base) (C := C) D6 T h_entry_of h_occupied_ways 
  have h_give_up_line := ok_give_up_line (P := l.prog) (w := w) (base := base) (C := C) D7 h_entry_of h_without_line 
  have h_after_recall := ok_after_recall (P := l.prog) (w := w) (base := base) (C := C) D8 h_entry_of h_without_line h_with_entry 
  have h_cache_receives := ok_cache_receives (P := l.prog) (w := w) (base := base) (C := C) D9 h_without_line h_after_recall 
  have h_can_receive := ok_can_receive (P := l.prog) (w := w) (base := base) (C := C) D13 TG 
  have h_begun := ok_begun (P := l.prog) (w := w) (base := base) (C := C) D14 T.no_tuple 
  have h_invalidated := ok_invalidated (P := l.prog) (w := w) (base := base) (C := C) D15 T.no_tuple 
  have h_returned := ok_returned (P := l.prog) (w := w) (base := base) (C := C) D16 
  have h_grant_if_ready := ok_grant_if_ready (P := l.prog) (w := w) (base := base) (C := C) D17 T 
  have h_home_receives := ok_home_receives (P := l.prog) (w := w) (base := base) (C := C) D18 h_invalidated h_returned h_begun h_grant_if_ready 
  have h_replaced := ok_replaced (P := l.prog) (w := w) (base := base) (C := C) D21 
  have h_start_system := ok_start_system (P := l.prog) (w := w) (base := base) (C := C) D22 T TG 
  have h_deliverable := ok_deliverable (P := l.prog) (w := w) (base := base) (C := C) D23 T TG h_can_receive 
  have h_delivered := ok_delivered (P := l.prog) (w := w) (base := base) (C := C) D24 T TG h_replaced h_cache_receives h_home_receives 
  have h_next_system := ok_next_system (P := l.prog) (w := w) (base := base) (C := C) D25 T TG h_replaced h_delivered h_deliverable h_request_line h_give_up_line 
  have h__law_tape := ok_law_tape (P := l.prog) (w := w) (base := base) (C := C) D29 T 
  have h__law_draw := ok_law_draw (P := l.prog) (w := w) (base := base) (C := C) D30 T 
  have h__law_world := ok_law_world (P := l.prog) (w := w) (base := base) (C := C) D31 T h__law_draw 
  have h__law_config := ok_law_config (P := l.prog) (w := w) (base := base) (C := C) D32 T N (ok_config FI T N) hb h__law_draw 
  have h__law_fresh := ok_law_fresh (P := l.prog) (w := w) (base := base) (C := C) D33 T h__law_draw 
  have h__law_action := ok_law_action (P := l.prog) (w := w) (base := base) (C := C) D34 T h__law_draw 
  have h__law_settled := ok_law_settled (P := l.prog) (w := w) (base := base) (C := C) D35 T h__law_draw h_next_system h_deliverable 
  have h__law_states := ok_law_states (P := l.prog) (w := w) (base := base) (C := C) D36 
  have h__law_rivals := ok_law_rivals (P := l.prog) (w := w) (base := base) (C := C) D37 T 
  have h__law_wanted := ok_law_wanted (P := l.prog) (w := w) (base := base) (C := C) D38 T h__law_draw h_next_system h__law_settled h__law_states h__law_rivals 
  exact ok_law D39 T h__law_draw h__law_tape h__law_world h__law_config h_start_system h__law_fresh h_next_system h__law_action h__law_settled h__law_wanted
end WK
open PySem PySem.W PyProof.Rows
set_option maxRecDepth 100000
set_option maxHeartbeats 0
open_top head for PySem.Challenge.rw_litmuscore_k54_whole_lines_are_obtained
theorem PySem.Challenge.cw_litmuscore_k54_whole_lines_are_obtained_holds : PySem.Challenge.rw_litmuscore_k54_whole_lines_are_obtained.Holds :=
  head (by
    k_fill
    refine L2.walk_of (l := PySem.Challenge.rw_litmuscore_k54_whole_lines_are_obtained) (n := 63) (k := 9) (x := "_law_script") (CX := fun _ => L2.CX0) (sp := fun w => WK.spLaw _) rfl (by decide) rfl ⟨rfl, by decide, by decide⟩ (fun w h Y => PySem.W.kIn_of Y) ?F (fun _ _ a ns hl _ hS => ⟨a, ns, rfl, hS, hl, fun _ => rfl⟩) (fun _ _ _ _ _ h => h)
    case F =>
      intro w mg fa h KX G hmg
      refine' WK.all_end KX G hmg ?CE ?G1 ?G2 ?G3 ?G4 ?D2 ?D3 ?D4 ?D5 ?D6 ?D7 ?D8 ?D9 ?D13 ?D14 ?D15 ?D16 ?D17 ?D18 ?D21 ?D22 ?D23 ?D24 ?D25 ?D29 ?D30 ?D31 ?D32 ?D33 ?D34 ?D35 ?D36 ?D37 ?D38 ?D39
      case CE =>
        refine' WK.cfg_mk KX G ?aC ?a1 ?i1 ?l1 ?c1 ?k1 ?d1 ?d2 ?pg ?hd ?po ?sa ?mk ?kc ?n0 ?n1 ?n2 ?n3 ?n4 ?n5 ?n6 ?n7 ?z0 ?z1 ?z2 ?z3 ?z4 ?z5 ?z6 ?z7
        (case aC => k_is)
        (case a1 => k_is)
        (case i1 => k_is)
        (case l1 => k_is)
        (case c1 => k_is)
        (case k1 => k_is)
        (case d1 => k_is)
        (case d2 => k_is)
        (case pg => k_is)
        (case hd => k_is)
        (case po => k_is)
        (case sa => k_is)
        (case mk => k_is)
        (case kc => k_is)
        (case n0 => k_is)
        (case n1 => k_is)
        (case n2 => k_is)
        (case n3 => k_is)
        (case n4 => k_is)
        (case n5 => k_is)
        (case n6 => k_is)
        (case n7 => k_is)
        (case z0 => k_is)
        (case z1 => k_is)
        (case z2 => k_is)
        (case z3 => k_is)
        (case z4 => k_is)
        (case z5 => k_is)
        (case z6 => k_is)
        (case z7 => k_is)
      case G1 =>
        refine' WK.glb_cache KX G ?hx ?l ?l1 ?l2 ?l3
        (case hx => k_is)
        (case l => k_is)
        (case l1 => k_is)
        (case l2 => k_is)
        (case l3 => k_is)
      case G2 =>
        refine' WK.glb_home KX G ?hx ?l ?l1
        (case hx => k_is)
        (case l => k_is)
        (case l1 => k_is)
      case G3 =>
        refine' WK.glb_waits KX G ?hx ?l
        (case hx => k_is)
        (case l => k_is)
      case G4 =>
        refine' WK.glb_to KX G ?hx ?l
        (case hx => k_is)
        (case l => k_is)
      case D2 =>
        refine' WK.dfn_mk KX G ?a ?l ?c ?k (fun _ _ _ _ _ _ us hl => match us, hl with | [_, _], _ => rfl)
        (case a => k_is)
        (case l => k_is)
        (case c => k_is)
        (case k => k_is)
      case D3 =>
        refine' WK.dfn_mk KX G ?a ?l ?c ?k (fun _ _ _ _ _ _ us hl => match us, hl with | [_, _], _ => rfl)
        (case a => k_is)
        (case l => k_is)
        (case c => k_is)
        (case k => k_is)
      case D4 =>
        refine' WK.dfn_mk KX G ?a ?l ?c ?k (fun _ _ _ _ _ _ us hl => match us, hl with | [_, _], _ => rfl)
        (case a => k_is)
        (case l => k_is)
        (case c => k_is)
        (case k => k_is)
      case D5 =>
        refine' WK.dfn_mk KX G ?a ?l ?c ?k (fun _ _ _ _ _ _ us hl => match us, hl with | [_, _, _], _ => rfl)
        (case a => k_is)
        (case l => k_is)
        (case c => k_is)
        (case k => k_is)
      case D6 =>
        refine' WK.dfn_mk KX G ?a ?l ?c ?k (fun _ _ _ _ _ _ us hl => match us, hl with | [_, _, _, _, _], _ => rfl)
        (case a => k_is)
        (case l => k_is)
        (case c => k_is)
        (case k => k_is)
      case D7 =>
        refine' WK.dfn_mk KX G ?a ?l ?c ?k (fun _ _ _ _ _ _ us hl => match us, hl with | [_, _, _], _ => rfl)
        (case a => k_is)
        (case l => k_is)
        (case c => k_is)
        (case k => k_is)
      case D8 =>
        refine' WK.dfn_mk KX G ?a ?l ?c ?k (fun _ _ _ _ _ _ us hl => match us, hl with | [_, _], _ => rfl)
        (case a => k_is)
        (case l => k_is)
        (case c => k_is)
        (case k => k_is)
      case D9 =>
        refine' WK.dfn_mk KX G ?a ?l ?c ?k (fun _ _ _ _ _ _ us hl => match us, hl with | [_, _], _ => rfl)
        (case a => k_is)
        (case l => k_is)
        (case c => k_is)
        (case k => k_is)
      case D13 =>
        refine' WK.dfn_mk KX G ?a ?l ?c ?k (fun _ _ _ _ _ _ us hl => match us, hl with | [_, _], _ => rfl)
        (case a => k_is)
        (case l => k_is)
        (case c => k_is)
        (case k => k_is)
      case D14 =>
        refine' WK.dfn_mk KX G ?a ?l ?c ?k (fun _ _ _ _ _ _ us hl => match us, hl with | [_, _, _], _ => rfl)
        (case a => k_is)
        (case l => k_is)
        (case c => k_is)
        (case k => k_is)
      case D15 =>
        refine' WK.dfn_mk KX G ?a ?l ?c ?k (fun _ _ _ _ _ _ us hl => match us, hl with | [_, _], _ => rfl)
        (case a => k_is)
        (case l => k_is)
        (case c => k_is)
        (case k => k_is)
      case D16 =>
        refine' WK.dfn_mk KX G ?a ?l ?c ?k (fun _ _ _ _ _ _ us hl => match us, hl with | [_, _], _ => rfl)
        (case a => k_is)
        (case l => k_is)
        (case c => k_is)
        (case k => k_is)
      case D17 =>
        refine' WK.dfn_mk KX G ?a ?l ?c ?k (fun _ _ _ _ _ _ us hl => match us, hl with | [_, _, _], _ => rfl)
        (case a => k_is)
        (case l => k_is)
        (case c => k_is)
        (case k => k_is)
      case D18 =>
        refine' WK.dfn_mk KX G ?a ?l ?c ?k (fun _ _ _ _ _ _ us hl => match us, hl with | [_, _, _, _], _ => rfl)
        (case a => k_is)
        (case l => k_is)
        (case c => k_is)
        (case k => k_is)
      case D21 =>
        refine' WK.dfn_mk KX G ?a ?l ?c ?k (fun _ _ _ _ _ _ us hl => match us, hl with | [_, _, _], _ => rfl)
        (case a => k_is)
        (case l => k_is)
        (case c => k_is)
        (case k => k_is)
      case D22 =>
        refine' WK.dfn_mk KX G ?a ?l ?c ?k (fun _ _ _ _ _ _ us hl => match us, hl with | [_, _], _ => rfl)
        (case a => k_is)
        (case l => k_is)
        (case c => k_is)
        (case k => k_is)
      case D23 =>
        refine' WK.dfn_mk KX G ?a ?l ?c ?k (fun _ _ _ _ _ _ us hl => match us, hl with | [_], _ => rfl)
        (case a => k_is)
        (case l => k_is)
        (case c => k_is)
        (case k => k_is)
      case D24 =>
        refine' WK.dfn_mk KX G ?a ?l ?c ?k (fun _ _ _ _ _ _ us hl => match us, hl with | [_, _, _], _ => rfl)
        (case a => k_is)
        (case l => k_is)
        (case c => k_is)
        (case k => k_is)
      case D25 =>
        refine' WK.dfn_mk KX G ?a ?l ?c ?k (fun _ _ _ _ _ _ us hl => match us, hl with | [_, _, _], _ => rfl)
        (case a => k_is)
        (case l => k_is)
        (case c => k_is)
        (case k => k_is)
      case D29 =>
        refine' WK.dfn_mk KX G ?a ?l ?c ?k (fun _ _ _ _ _ _ us hl => match us, hl with | [_], _ => rfl)
        (case a => k_is)
        (case l => k_is)
        (case c => k_is)
        (case k => k_is)
      case D30 =>
        refine' WK.dfn_mk KX G ?a ?l ?c ?k (fun _ _ _ _ _ _ us hl => match us, hl with | [_, _], _ => rfl)
        (case a => k_is)
        (case l => k_is)
        (case c => k_is)
        (case k => k_is)
      case D31 =>
        refine' WK.dfn_mk KX G ?a ?l ?c ?k (fun _ _ _ _ _ _ us hl => match us, hl with | [_], _ => rfl)
        (case a => k_is)
        (case l => k_is)
        (case c => k_is)
        (case k => k_is)
      case D32 =>
        refine' WK.dfn_mk KX G ?a ?l ?c ?k (fun _ _ _ _ _ _ us hl => match us, hl with | [_, _], _ => rfl)
        (case a => k_is)
        (case l => k_is)
        (case c => k_is)
        (case k => k_is)
      case D33 =>
        refine' WK.dfn_mk KX G ?a ?l ?c ?k (fun _ _ _ _ _ _ us hl => match us, hl with | [_, _], _ => rfl)
        (case a => k_is)
        (case l => k_is)
        (case c => k_is)
        (case k => k_is)
      case D34 =>
        refine' WK.dfn_mk KX G ?a ?l ?c ?k (fun _ _ _ _ _ _ us hl => match us, hl with | [_, _, _], _ => rfl)
        (case a => k_is)
        (case l => k_is)
        (case c => k_is)
        (case k => k_is)
      case D35 =>
        refine' WK.dfn_mk KX G ?a ?l ?c ?k (fun _ _ _ _ _ _ us hl => match us, hl with | [_, _, _, _], _ => rfl)
        (case a => k_is)
        (case l => k_is)
        (case c => k_is)
        (case k => k_is)
      case D36 =>
        refine' WK.dfn_mk KX G ?a ?l ?c ?k (fun _ _ _ _ _ _ us hl => match us, hl with | [_, _], _ => rfl)
        (case a => k_is)
        (case l => k_is)
        (case c => k_is)
        (case k => k_is)
      case D37 =>
        refine' WK.dfn_mk KX G ?a ?l ?c ?k (fun _ _ _ _ _ _ us hl => match us, hl with | [_, _, _], _ => rfl)
        (case a => k_is)
        (case l => k_is)
        (case c => k_is)
        (case k => k_is)
      case D38 =>
        refine' WK.dfn_mk KX G ?a ?l ?c ?k (fun _ _ _ _ _ _ us hl => match us, hl with | [_, _, _, _], _ => rfl)
        (case a => k_is)
        (case l => k_is)
        (case c => k_is)
        (case k => k_is)
      case D39 =>
        refine' WK.dfn_mk KX G ?a ?l ?c ?k (fun _ _ _ _ _ _ us hl => match us, hl with | [_], _ => rfl)
        (case a => k_is)
        (case l => k_is)
        (case c => k_is)
        (case k => k_is))
#print axioms PySem.Challenge.cw_litmuscore_k54_whole_lines_are_obtained_holds
