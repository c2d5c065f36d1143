-- Written by shrink.py, a program of this session: what the law needs of the print and its words. Lean checks it.
import Derived.Test.YtijmdmnhbbcahaaZPTallyPutsx0
import Derived.Test.YtijmdmnhbbcahaaZPTallyPutsx1
import Derived.Test.YtijmdmnhbbcahaaZPTallyPutsx2
import Derived.Test.YtijmdmnhbbcahaaZPTallyPutsx3
import Derived.Test.YtijmdmnhbbcahaaZPTallyPutsx4
import Derived.Test.YtijmdmnhbbcahaaZPTallyPutsx5
import Derived.Test.YtijmdmnhbbcahaaZPTallyPutsx6
import Derived.Test.YtijmdmnhbbcahaaZPTallyPutsx7
import Derived.Test.YtijmdmnhbbcahaaZPTallyPutsx8
import Derived.Test.YtijmdmnhbbcahaaZPTallyPutsx9
import Derived.Test.YtijmdmnhbbcahaaZPTallyPutsx10
import Derived.Test.YtijmdmnhbbcahaaZPTallyPutsx11
import Derived.Test.YtijmdmnhbbcahaaZPTallyPutsx12
import Derived.Test.YtijmdmnhbbcahaaZPTallyPutsx13
import Derived.Test.YtijmdmnhbbcahaaZPTallyPutsx14
import Derived.Test.YtijmdmnhbbcahaaZPTallyPutsx15
