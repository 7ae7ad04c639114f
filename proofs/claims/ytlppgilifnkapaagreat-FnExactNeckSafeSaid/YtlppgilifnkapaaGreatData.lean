/- The program's data as plain data, and how each lies in memory. -/
import Derived.Test.YtlppgilifnkapaaGreatFun
set_option linter.unusedVariables false
set_option linter.unusedSimpArgs false
namespace Go.Proofs.YtlppgilifnkapaaGreat
open Go Go.RowKit

structure Stamp where
  time : Int
  site : Int
deriving DecidableEq, Inhabited
structure Dep where
  key : Int
  stamp : Stamp
deriving DecidableEq, Inhabited
structure Ver where
  key : Int
  stamp : Stamp
  val : Int
  client : Int
  call : Int
  deps : List Dep
deriving DecidableEq, Inhabited
structure Word where
  kind : Int
  frm : Int
  to : Int
  call : Int
  key : Int
  stamp : Stamp
  val : Int
  yes : Bool
  deps : List Dep
  slot : Int
  epoch : Int
  vers : List Ver
  waits : List Ver
  owes : List Dep
deriving DecidableEq, Inhabited
structure Slot where
  epoch : Int
  stand : Int
deriving DecidableEq, Inhabited
structure Server where
  site : Int
  up : Bool
  slots : List Slot
  vers : List Ver
  waits : List Ver
  owes : List Dep
  knows : List Dep
deriving DecidableEq, Inhabited
structure Answer where
  key : Int
  yes : Bool
  ver : Ver
deriving DecidableEq, Inhabited
structure Call where
  client : Int
  num : Int
  kind : Int
  keys : List Int
  val : Int
  ctx : List Dep
  begin_ : Int
  end_ : Int
  over : Bool
  stamp : Stamp
  got : List Answer
  needs : List Dep
deriving DecidableEq, Inhabited
structure Neck where
  time : Int
  servers : List Server
  radio : List Word
  calls : List Call
  seen : List (List Dep)
deriving DecidableEq, Inhabited
structure Ev where
  kind : Int
  at_ : Int
  client : Int
  word : Int
  keep : Int
  slot : Int
  call : Int
  a : Int
  b : Int
  c : Int
  val : Int
deriving DecidableEq, Inhabited

def Stamp.cells (s : Stamp) : List AV := [.int s.time, .int s.site]
def Dep.cells (d : Dep) : List AV := [.int d.key, .int d.stamp.time, .int d.stamp.site]
def depsAV (l : List Dep) : AV := .rows 3 (l.map Dep.cells)
def Ver.cells (v : Ver) : List AV := [.int v.key, .int v.stamp.time, .int v.stamp.site, .int v.val, .int v.client, .int v.call, depsAV v.deps]
def versAV (l : List Ver) : AV := .rows 7 (l.map Ver.cells)
def Word.cells (w : Word) : List AV := [.int w.kind, .int w.frm, .int w.to, .int w.call, .int w.key, .int w.stamp.time, .int w.stamp.site, .int w.val, .bool w.yes, depsAV w.deps, .int w.slot, .int w.epoch, versAV w.vers, versAV w.waits, depsAV w.owes]
def wordsAV (l : List Word) : AV := .rows 15 (l.map Word.cells)
def Slot.cells (s : Slot) : List AV := [.int s.epoch, .int s.stand]
def slotsAV (l : List Slot) : AV := .rows 2 (l.map Slot.cells)
def Server.cells (s : Server) : List AV := [.int s.site, .bool s.up, slotsAV s.slots, versAV s.vers, versAV s.waits, depsAV s.owes, depsAV s.knows]
def serversAV (l : List Server) : AV := .rows 7 (l.map Server.cells)
def Answer.cells (a : Answer) : List AV := [.int a.key, .bool a.yes, .int a.ver.key, .int a.ver.stamp.time, .int a.ver.stamp.site, .int a.ver.val, .int a.ver.client, .int a.ver.call, depsAV a.ver.deps]
def answersAV (l : List Answer) : AV := .rows 9 (l.map Answer.cells)
def intCell (k : Int) : List AV := [.int k]
def intsAV (l : List Int) : AV := .rows 1 (l.map intCell)
def Call.cells (c : Call) : List AV := [.int c.client, .int c.num, .int c.kind, intsAV c.keys, .int c.val, depsAV c.ctx, .int c.begin_, .int c.end_, .bool c.over, .int c.stamp.time, .int c.stamp.site, answersAV c.got, depsAV c.needs]
def callsAV (l : List Call) : AV := .rows 13 (l.map Call.cells)
def depsCell (l : List Dep) : List AV := [depsAV l]
def seenAV (l : List (List Dep)) : AV := .rows 1 (l.map depsCell)
def Neck.cells (w : Neck) : List AV := [.int w.time, serversAV w.servers, wordsAV w.radio, callsAV w.calls, seenAV w.seen]
def Ev.cells (e : Ev) : List AV := [.int e.kind, .int e.at_, .int e.client, .int e.word, .int e.keep, .int e.slot, .int e.call, .int e.a, .int e.b, .int e.c, .int e.val]
def evsAV (l : List Ev) : AV := .rows 11 (l.map Ev.cells)
def Stamp.av (s : Stamp) : AV := .agg s.cells
def Dep.av (s : Dep) : AV := .agg s.cells
def Ver.av (s : Ver) : AV := .agg s.cells
def Word.av (s : Word) : AV := .agg s.cells
def Slot.av (s : Slot) : AV := .agg s.cells
def Server.av (s : Server) : AV := .agg s.cells
def Answer.av (s : Answer) : AV := .agg s.cells
def Call.av (s : Call) : AV := .agg s.cells
def Neck.av (s : Neck) : AV := .agg s.cells
def Ev.av (s : Ev) : AV := .agg s.cells
end Go.Proofs.YtlppgilifnkapaaGreat
